import Derived.Test.YthfglkkjkpdkpaaGreatDoorLt
import Derived.Test.YthfglkkjkpdkpaaGreatDoorLl
import Derived.Test.YthfglkkjkpdkpaaGreatDoorFk
set_option linter.unusedSimpArgs false
set_option linter.unusedVariables false
namespace Go.Proofs.YthfglkkjkpdkpaaGreatDoor
open Go.RowKit

set_option maxRecDepth 20000 in
set_option maxHeartbeats 4000000 in
set_option maxRecDepth 20000 in
set_option maxHeartbeats 4000000 in
theorem inter3_r (l : List Rv) (p : Option Addr) (n c : Nat) (hn2 : n ≤ 1000)  (w : World) (hr : Reads w p n c 10 (fl rvL l)) : Calls Tryz.prog 16 #[.int .i64 3, .slice p n c] w fun e w' => ∃ p' c', e = .returned (.slice p' (l.filter qI).length c') ∧ S w' ([Rw 30 10 p' (l.filter qI).length c' (fl rvL (l.filter qI))] ++ [Old w no]) := by
  have H0 := S.old w
  have hnl := hr.lenL rvE
  refine enter 31 Tryz.func16 rfl rfl rfl ?_
  refine g_weak [(0, .int .i64 3), (1, .slice p n c)] ⟨rfl, rfl, trivial⟩ ?_
  refine g_seq ?_
  refine g_region ?_
  refine l_of (s_val (v := .slice none 0 0) (wt0 rfl) rfl rfl (x_assign rfl rfl) ?_)
  refine g_nil ?_
  refine g_then ?_
  refine g_seq ?_
  refine g_region ?_
  refine l_of (s_val (v := .slice none 0 0) (wt0 rfl) rfl rfl (x_assign rfl rfl) ?_)
  refine g_nil ?_
  refine g_then ?_
  refine g_seq ?_
  refine g_seq ?_
  refine g_region ?_
  refine l_of (s_val (v := .slice p n c) (wt0 rfl) rfl rfl (x_move rfl rfl) ?_)
  refine l_of (s_val (v := .int .i64 ((n : Int))) (wt0 rfl) rfl rfl (x_lenl rfl rfl Tryz.underlying22) ?_)
  refine l_of (s_val (v := .int .i64 0) (wt0 rfl) rfl rfl (x_move rfl rfl) ?_)
  refine g_nil ?_
  refine g_then ?_
  refine g_block ?_
  refine g_loop (ι := Nat × Option Addr × Nat × List Rv) (fun (i, pa, ca, A) => [(0, .int .i64 3), (5, .slice pa A.length ca), (8, .slice p n c), (9, .int .i64 ((n : Int))), (10, .int .i64 ((i : Int)))]) (fun (i, pa, ca, A) wx => (i ≤ n) ∧ (A = (l.take i).filter qI) ∧ (A.length ≤ i) ∧ S wx [Rw 30 10 pa A.length ca (fl rvL A), Old w no]) (fun (i, pa, ca, A) => n - i) (0, none, 0, []) ⟨rfl, rfl, rfl, rfl, rfl, trivial⟩ ⟨Nat.zero_le _, (by rw [List.take_zero]; rfl), (Nat.le_refl 0), ((H0.takes [0] (by decide)).nilFl 30 10 rvL)⟩ ?_
  rintro ⟨i, pa, ca, A⟩ wq1 ⟨hi, hA, hAl, H2⟩
  replace H2 : S wq1 [Rw 30 10 pa A.length ca (fl rvL A), Old w no] := H2
  refine g_weak [(0, .int .i64 3), (5, .slice pa A.length ca), (8, .slice p n c), (9, .int .i64 ((n : Int))), (10, .int .i64 ((i : Int)))] ⟨rfl, rfl, rfl, rfl, rfl, trivial⟩ ?_
  refine g_seq ?_
  refine g_region ?_
  refine l_of (s_val (v := .bool (decide (((i : Int) : Int) < (n : Int)))) (wt0 rfl) rfl rfl (x_bin rfl rfl rfl b_lss) ?_)
  refine g_nil ?_
  refine g_then ?_
  refine g_seq ?_
  by_cases hb3 : ((i : Int) : Int) < (n : Int)
  · skip
    refine g_cond_t rfl (decide_eq_true hb3) ?_
    refine g_skip ?_
    refine g_then ?_
    refine g_seq ?_
    refine g_block ?_
    refine g_seq ?_
    refine g_region ?_
    refine l_of (s_val (v := .pointer ((p).map fun q => q.add (i * 10))) (wt0 rfl) rfl rfl (x_idxR i (H2.exReads (k := 1) rfl hr (fun _ _ _ h => h)) rfl rfl rfl Tryz.underlying22 sz30 (by omega)) ?_)
    have hlq := (H2.exReads (k := 1) rfl hr (fun _ _ _ h => h)).lenL rvE
    obtain ⟨x4, hx4⟩ := ex_at (l := l) (j := i) (by omega)
    clear hlq
    refine l_of (s_val (v := .agg #[.int .i64 (x4.id), .bool x4.intr, .bool x4.chk, .int .i64 (x4.frm), .int .i64 (x4.to), .int .i64 (x4.lt), .int .i64 (x4.since), .bool x4.snb, .bool x4.now, .bool x4.seed]) (wt0 rfl) rfl rfl (x_loadRA (vs := rvL x4) i (H2.exReads (k := 1) rfl hr (fun _ _ _ h => h)) (by omega) rfl rfl Tryz.underlying30 rfl sz30 (by rfl) (rvE.flAt hx4)) ?_)
    refine l_of (s_alloc H2 (wt0 rfl) rfl rfl rfl ze30 ?_)
    intro g5 wq6 H7
    refine l_of (s_store H7 0 (wt0 rfl) rfl rfl rfl rfl rfl sz30 rfl rfl (cs' := #[.int .i64 (x4.id), .bool x4.intr, .bool x4.chk, .int .i64 (x4.frm), .int .i64 (x4.to), .int .i64 (x4.lt), .int .i64 (x4.since), .bool x4.snb, .bool x4.now, .bool x4.seed]) rfl ?_)
    intro wq8 H9
    refine g_nil ?_
    refine g_then ?_
    refine g_seq ?_
    refine g_region ?_
    refine l_of (s_val (v := .pointer (some ⟨g5, 1, none⟩)) (wt0 rfl) rfl rfl (x_fieldAddr rfl rfl fo30_1 rfl) ?_)
    refine l_of (s_val (v := .bool x4.intr) (wt0 rfl) rfl rfl (x_load1 H9 0 rfl rfl Tryz.underlying4 rfl rfl rfl) ?_)
    refine l_of (s_val (v := .bool x4.intr) (wt0 rfl) rfl rfl (x_move rfl rfl) ?_)
    rcases Bool.eq_false_or_eq_true (x4.intr) with hb10 | hb10
    · skip
      refine l_of (s_val (v := .int .i64 3) (wt1 rfl rfl rfl rfl hb10) rfl rfl (x_move rfl rfl) ?_)
      refine l_of (s_val (v := .bool (decide ((3 : Int) = 3))) (wt1 rfl rfl rfl rfl hb10) rfl rfl (x_bin rfl rfl rfl b_eql) ?_)
      refine l_of (s_val (v := .bool (decide ((3 : Int) = 3))) (wt1 rfl rfl rfl rfl hb10) rfl rfl (x_move rfl rfl) ?_)
      refine l_of (s_not (wn1 rfl rfl rfl rfl (decide_eq_true rfl)) rfl rfl ?_)
      refine l_of (s_not (wn1 rfl rfl rfl rfl (decide_eq_true rfl)) rfl rfl ?_)
      refine l_of (s_not (wn1 rfl rfl rfl rfl (decide_eq_true rfl)) rfl rfl ?_)
      refine l_of (s_val (v := .bool true) (wt1 rfl rfl rfl rfl hb10) rfl rfl (x_pick_t rfl rfl (decide_eq_true rfl) rfl) ?_)
      refine l_of (s_val (v := .bool true) (wt0 rfl) rfl rfl (x_pick_t rfl rfl hb10 rfl) ?_)
      refine g_nil ?_
      refine g_then ?_
      refine g_weak [(0, .int .i64 3), (5, .slice pa A.length ca), (7, .pointer (some ⟨g5, 0, none⟩)), (8, .slice p n c), (9, .int .i64 ((n : Int))), (10, .int .i64 ((i : Int))), (24, .bool true)] ⟨rfl, rfl, rfl, rfl, rfl, rfl, rfl, trivial⟩ ?_
      refine g_cond_t rfl rfl ?_
      refine g_region ?_
      refine l_of (s_val (v := .slice pa A.length ca) (wt0 rfl) rfl rfl (x_move rfl rfl) ?_)
      refine l_of (s_val (v := .agg #[.int .i64 (x4.id), .bool x4.intr, .bool x4.chk, .int .i64 (x4.frm), .int .i64 (x4.to), .int .i64 (x4.lt), .int .i64 (x4.since), .bool x4.snb, .bool x4.now, .bool x4.seed]) (wt0 rfl) rfl rfl (x_loadA H9 0 rfl rfl Tryz.underlying30 rfl sz30 rfl rfl rfl) ?_)
      refine l_of (s_buildSlice H9 (wt0 rfl) rfl rfl rfl (vs := [.agg #[.int .i64 (x4.id), .bool x4.intr, .bool x4.chk, .int .i64 (x4.frm), .int .i64 (x4.to), .int .i64 (x4.lt), .int .i64 (x4.since), .bool x4.snb, .bool x4.now, .bool x4.seed]]) rfl Tryz.underlying22 sz30 ze30 rfl rfl (cells := #[.int .i64 (x4.id), .bool x4.intr, .bool x4.chk, .int .i64 (x4.frm), .int .i64 (x4.to), .int .i64 (x4.lt), .int .i64 (x4.since), .bool x4.snb, .bool x4.now, .bool x4.seed]) (by kernel_rfl) ?_)
      intro g11 wq12 H13
      have hln18a := (H13.rwReads (k := 2) rfl).lenL rvE
      have hln18 : (A ++ [x4]).length = A.length + 1 := by simp only [List.length_append, List.length_cons, List.length_nil] <;> omega
      refine l_of (s_appBn (m := 1) (l := A) (l2 := [x4]) rvE H13 2 (j0 := 0) rfl rfl ⟨rfl, Nat.le_refl _⟩ (wt0 rfl) rfl rfl rfl rfl rfl rfl Tryz.underlying22 inf30 rfl (by decide) (by omega) ?_)
      intro p14 c15 wq16 H17
      replace H17 : S wq16 [Ob g11 (.cells #[.int .i64 (x4.id), .bool x4.intr, .bool x4.chk, .int .i64 (x4.frm), .int .i64 (x4.to), .int .i64 (x4.lt), .int .i64 (x4.since), .bool x4.snb, .bool x4.now, .bool x4.seed] 30 (0, 0)), Ob g5 (.cells #[.int .i64 (x4.id), .bool x4.intr, .bool x4.chk, .int .i64 (x4.frm), .int .i64 (x4.to), .int .i64 (x4.lt), .int .i64 (x4.since), .bool x4.snb, .bool x4.now, .bool x4.seed] 30 (0, 0)), Rw 30 10 p14 ((A ++ [x4]).length) c15 (fl rvL (A ++ [x4])), Old w no] := H17
      refine l_of (s_val (v := .slice p14 ((A ++ [x4]).length) c15) (wt0 rfl) rfl rfl (x_assign rfl rfl) ?_)
      refine g_nil ?_
      refine g_in ?_
      refine g_then ?_
      refine g_region ?_
      refine l_of (s_val (v := .int .i64 (((i + 1 : Nat) : Int))) (wt0 rfl) rfl rfl (x_bin rfl rfl rfl (b_add (by rw [w64 (by omega)]; omega))) ?_)
      refine l_of (s_val (v := .int .i64 (((i + 1 : Nat) : Int))) (wt0 rfl) rfl rfl (x_move rfl rfl) ?_)
      refine g_nil ?_
      refine g_then ?_
      refine g_round (i := (i, pa, ca, A)) ((i + 1), p14, c15, (A ++ [x4])) ?_ ?_ ?_
      · exact ⟨rfl, rfl, rfl, rfl, rfl, trivial⟩
      · exact ⟨by omega, (by rw [take_snocL hx4, List.filter_append, ← hA]; unfold qI; simp [hb10]), (by first | omega | (simp only [List.length_append, List.length_cons, List.length_nil]; omega)), (H17.takes [2, 3] (by decide))⟩
      · (try dsimp only); omega
    · skip
      refine l_of (s_not (wn1 rfl rfl rfl rfl hb10) rfl rfl ?_)
      refine l_of (s_not (wn1 rfl rfl rfl rfl hb10) rfl rfl ?_)
      refine l_of (s_not (wn1 rfl rfl rfl rfl hb10) rfl rfl ?_)
      refine l_of (s_not (wn2 rfl rfl rfl rfl) rfl rfl ?_)
      refine l_of (s_not (wn2 rfl rfl rfl rfl) rfl rfl ?_)
      refine l_of (s_not (wn2 rfl rfl rfl rfl) rfl rfl ?_)
      refine l_of (s_not (wn1 rfl rfl rfl rfl hb10) rfl rfl ?_)
      refine l_of (s_val (v := .bool false) (wt0 rfl) rfl rfl (x_pick_f rfl rfl hb10 rfl) ?_)
      refine g_nil ?_
      refine g_then ?_
      refine g_weak [(0, .int .i64 3), (5, .slice pa A.length ca), (7, .pointer (some ⟨g5, 0, none⟩)), (8, .slice p n c), (9, .int .i64 ((n : Int))), (10, .int .i64 ((i : Int))), (24, .bool false)] ⟨rfl, rfl, rfl, rfl, rfl, rfl, rfl, trivial⟩ ?_
      refine g_cond_f rfl rfl ?_
      refine g_skip ?_
      refine g_in ?_
      refine g_then ?_
      refine g_region ?_
      refine l_of (s_val (v := .int .i64 (((i + 1 : Nat) : Int))) (wt0 rfl) rfl rfl (x_bin rfl rfl rfl (b_add (by rw [w64 (by omega)]; omega))) ?_)
      refine l_of (s_val (v := .int .i64 (((i + 1 : Nat) : Int))) (wt0 rfl) rfl rfl (x_move rfl rfl) ?_)
      refine g_nil ?_
      refine g_then ?_
      refine g_round (i := (i, pa, ca, A)) ((i + 1), pa, ca, A) ?_ ?_ ?_
      · exact ⟨rfl, rfl, rfl, rfl, rfl, trivial⟩
      · exact ⟨by omega, (by rw [take_snocL hx4, List.filter_append, ← hA]; unfold qI; simp [hb10]), (by first | omega | (simp only [List.length_append, List.length_cons, List.length_nil]; omega)), (H9.takes [1, 2] (by decide))⟩
      · (try dsimp only); omega
  · skip
    refine g_cond_f rfl (decide_eq_false hb3) ?_
    refine g_exit ?_
    refine g_then_exit ?_
    refine g_then_exit ?_
    refine g_in_hit ?_
    refine g_then ?_
    refine g_seq ?_
    refine g_region ?_
    refine l_of (s_val (v := .slice pa A.length ca) (wt0 rfl) rfl rfl (x_move rfl rfl) ?_)
    refine l_of (s_val (v := .slice pa A.length ca) (wt0 rfl) rfl rfl (x_assign rfl rfl) ?_)
    refine g_nil ?_
    refine g_then ?_
    refine g_ret ?_
    refine fin_ret [.tmp 4] [.slice pa A.length ca] rfl ⟨rfl, trivial⟩ ?_
    rw [List.take_of_length_le (by omega)] at hA
    rw [← hA]
    exact ⟨_, _, rfl, H2.takes [0, 1] (by decide)⟩
set_option maxRecDepth 20000 in
set_option maxHeartbeats 4000000 in
set_option maxRecDepth 20000 in
set_option maxHeartbeats 4000000 in
theorem interw_r (way : Int) (hw : ¬ way = 3) (l : List Rv) (p : Option Addr) (n c : Nat) (hn2 : n ≤ 1000)  (w : World) (hr : Reads w p n c 10 (fl rvL l)) : Calls Tryz.prog 16 #[.int .i64 way, .slice p n c] w fun e w' => ∃ p' c', e = .returned (.slice p' (l.filter qW).length c') ∧ S w' ([Rw 30 10 p' (l.filter qW).length c' (fl rvL (l.filter qW))] ++ [Old w no]) := by
  have H0 := S.old w
  have hnl := hr.lenL rvE
  refine enter 31 Tryz.func16 rfl rfl rfl ?_
  refine g_weak [(0, .int .i64 way), (1, .slice p n c)] ⟨rfl, rfl, trivial⟩ ?_
  refine g_seq ?_
  refine g_region ?_
  refine l_of (s_val (v := .slice none 0 0) (wt0 rfl) rfl rfl (x_assign rfl rfl) ?_)
  refine g_nil ?_
  refine g_then ?_
  refine g_seq ?_
  refine g_region ?_
  refine l_of (s_val (v := .slice none 0 0) (wt0 rfl) rfl rfl (x_assign rfl rfl) ?_)
  refine g_nil ?_
  refine g_then ?_
  refine g_seq ?_
  refine g_seq ?_
  refine g_region ?_
  refine l_of (s_val (v := .slice p n c) (wt0 rfl) rfl rfl (x_move rfl rfl) ?_)
  refine l_of (s_val (v := .int .i64 ((n : Int))) (wt0 rfl) rfl rfl (x_lenl rfl rfl Tryz.underlying22) ?_)
  refine l_of (s_val (v := .int .i64 0) (wt0 rfl) rfl rfl (x_move rfl rfl) ?_)
  refine g_nil ?_
  refine g_then ?_
  refine g_block ?_
  refine g_loop (ι := Nat × Option Addr × Nat × List Rv) (fun (i, pa, ca, A) => [(0, .int .i64 way), (5, .slice pa A.length ca), (8, .slice p n c), (9, .int .i64 ((n : Int))), (10, .int .i64 ((i : Int)))]) (fun (i, pa, ca, A) wx => (i ≤ n) ∧ (A = (l.take i).filter qW) ∧ (A.length ≤ i) ∧ S wx [Rw 30 10 pa A.length ca (fl rvL A), Old w no]) (fun (i, pa, ca, A) => n - i) (0, none, 0, []) ⟨rfl, rfl, rfl, rfl, rfl, trivial⟩ ⟨Nat.zero_le _, (by rw [List.take_zero]; rfl), (Nat.le_refl 0), ((H0.takes [0] (by decide)).nilFl 30 10 rvL)⟩ ?_
  rintro ⟨i, pa, ca, A⟩ wq1 ⟨hi, hA, hAl, H2⟩
  replace H2 : S wq1 [Rw 30 10 pa A.length ca (fl rvL A), Old w no] := H2
  refine g_weak [(0, .int .i64 way), (5, .slice pa A.length ca), (8, .slice p n c), (9, .int .i64 ((n : Int))), (10, .int .i64 ((i : Int)))] ⟨rfl, rfl, rfl, rfl, rfl, trivial⟩ ?_
  refine g_seq ?_
  refine g_region ?_
  refine l_of (s_val (v := .bool (decide (((i : Int) : Int) < (n : Int)))) (wt0 rfl) rfl rfl (x_bin rfl rfl rfl b_lss) ?_)
  refine g_nil ?_
  refine g_then ?_
  refine g_seq ?_
  by_cases hb3 : ((i : Int) : Int) < (n : Int)
  · skip
    refine g_cond_t rfl (decide_eq_true hb3) ?_
    refine g_skip ?_
    refine g_then ?_
    refine g_seq ?_
    refine g_block ?_
    refine g_seq ?_
    refine g_region ?_
    refine l_of (s_val (v := .pointer ((p).map fun q => q.add (i * 10))) (wt0 rfl) rfl rfl (x_idxR i (H2.exReads (k := 1) rfl hr (fun _ _ _ h => h)) rfl rfl rfl Tryz.underlying22 sz30 (by omega)) ?_)
    have hlq := (H2.exReads (k := 1) rfl hr (fun _ _ _ h => h)).lenL rvE
    obtain ⟨x4, hx4⟩ := ex_at (l := l) (j := i) (by omega)
    clear hlq
    refine l_of (s_val (v := .agg #[.int .i64 (x4.id), .bool x4.intr, .bool x4.chk, .int .i64 (x4.frm), .int .i64 (x4.to), .int .i64 (x4.lt), .int .i64 (x4.since), .bool x4.snb, .bool x4.now, .bool x4.seed]) (wt0 rfl) rfl rfl (x_loadRA (vs := rvL x4) i (H2.exReads (k := 1) rfl hr (fun _ _ _ h => h)) (by omega) rfl rfl Tryz.underlying30 rfl sz30 (by rfl) (rvE.flAt hx4)) ?_)
    refine l_of (s_alloc H2 (wt0 rfl) rfl rfl rfl ze30 ?_)
    intro g5 wq6 H7
    refine l_of (s_store H7 0 (wt0 rfl) rfl rfl rfl rfl rfl sz30 rfl rfl (cs' := #[.int .i64 (x4.id), .bool x4.intr, .bool x4.chk, .int .i64 (x4.frm), .int .i64 (x4.to), .int .i64 (x4.lt), .int .i64 (x4.since), .bool x4.snb, .bool x4.now, .bool x4.seed]) rfl ?_)
    intro wq8 H9
    refine g_nil ?_
    refine g_then ?_
    refine g_seq ?_
    refine g_region ?_
    refine l_of (s_val (v := .pointer (some ⟨g5, 1, none⟩)) (wt0 rfl) rfl rfl (x_fieldAddr rfl rfl fo30_1 rfl) ?_)
    refine l_of (s_val (v := .bool x4.intr) (wt0 rfl) rfl rfl (x_load1 H9 0 rfl rfl Tryz.underlying4 rfl rfl rfl) ?_)
    refine l_of (s_val (v := .bool x4.intr) (wt0 rfl) rfl rfl (x_move rfl rfl) ?_)
    rcases Bool.eq_false_or_eq_true (x4.intr) with hb10 | hb10
    · skip
      refine l_of (s_val (v := .int .i64 way) (wt1 rfl rfl rfl rfl hb10) rfl rfl (x_move rfl rfl) ?_)
      refine l_of (s_val (v := .bool (decide ((way : Int) = 3))) (wt1 rfl rfl rfl rfl hb10) rfl rfl (x_bin rfl rfl rfl b_eql) ?_)
      refine l_of (s_val (v := .bool (decide ((way : Int) = 3))) (wt1 rfl rfl rfl rfl hb10) rfl rfl (x_move rfl rfl) ?_)
      by_cases hb11 : (way : Int) = 3
      · skip
        refine l_of (s_not (wn1 rfl rfl rfl rfl (decide_eq_true hb11)) rfl rfl ?_)
        refine l_of (s_not (wn1 rfl rfl rfl rfl (decide_eq_true hb11)) rfl rfl ?_)
        refine l_of (s_not (wn1 rfl rfl rfl rfl (decide_eq_true hb11)) rfl rfl ?_)
        refine l_of (s_val (v := .bool true) (wt1 rfl rfl rfl rfl hb10) rfl rfl (x_pick_t rfl rfl (decide_eq_true hb11) rfl) ?_)
        refine l_of (s_val (v := .bool true) (wt0 rfl) rfl rfl (x_pick_t rfl rfl hb10 rfl) ?_)
        refine g_nil ?_
        refine g_then ?_
        refine g_weak [(0, .int .i64 way), (5, .slice pa A.length ca), (7, .pointer (some ⟨g5, 0, none⟩)), (8, .slice p n c), (9, .int .i64 ((n : Int))), (10, .int .i64 ((i : Int))), (24, .bool true)] ⟨rfl, rfl, rfl, rfl, rfl, rfl, rfl, trivial⟩ ?_
        refine g_cond_t rfl rfl ?_
        refine g_region ?_
        refine l_of (s_val (v := .slice pa A.length ca) (wt0 rfl) rfl rfl (x_move rfl rfl) ?_)
        refine l_of (s_val (v := .agg #[.int .i64 (x4.id), .bool x4.intr, .bool x4.chk, .int .i64 (x4.frm), .int .i64 (x4.to), .int .i64 (x4.lt), .int .i64 (x4.since), .bool x4.snb, .bool x4.now, .bool x4.seed]) (wt0 rfl) rfl rfl (x_loadA H9 0 rfl rfl Tryz.underlying30 rfl sz30 rfl rfl rfl) ?_)
        refine l_of (s_buildSlice H9 (wt0 rfl) rfl rfl rfl (vs := [.agg #[.int .i64 (x4.id), .bool x4.intr, .bool x4.chk, .int .i64 (x4.frm), .int .i64 (x4.to), .int .i64 (x4.lt), .int .i64 (x4.since), .bool x4.snb, .bool x4.now, .bool x4.seed]]) rfl Tryz.underlying22 sz30 ze30 rfl rfl (cells := #[.int .i64 (x4.id), .bool x4.intr, .bool x4.chk, .int .i64 (x4.frm), .int .i64 (x4.to), .int .i64 (x4.lt), .int .i64 (x4.since), .bool x4.snb, .bool x4.now, .bool x4.seed]) (by kernel_rfl) ?_)
        intro g12 wq13 H14
        have hln19a := (H14.rwReads (k := 2) rfl).lenL rvE
        have hln19 : (A ++ [x4]).length = A.length + 1 := by simp only [List.length_append, List.length_cons, List.length_nil] <;> omega
        refine l_of (s_appBn (m := 1) (l := A) (l2 := [x4]) rvE H14 2 (j0 := 0) rfl rfl ⟨rfl, Nat.le_refl _⟩ (wt0 rfl) rfl rfl rfl rfl rfl rfl Tryz.underlying22 inf30 rfl (by decide) (by omega) ?_)
        intro p15 c16 wq17 H18
        replace H18 : S wq17 [Ob g12 (.cells #[.int .i64 (x4.id), .bool x4.intr, .bool x4.chk, .int .i64 (x4.frm), .int .i64 (x4.to), .int .i64 (x4.lt), .int .i64 (x4.since), .bool x4.snb, .bool x4.now, .bool x4.seed] 30 (0, 0)), Ob g5 (.cells #[.int .i64 (x4.id), .bool x4.intr, .bool x4.chk, .int .i64 (x4.frm), .int .i64 (x4.to), .int .i64 (x4.lt), .int .i64 (x4.since), .bool x4.snb, .bool x4.now, .bool x4.seed] 30 (0, 0)), Rw 30 10 p15 ((A ++ [x4]).length) c16 (fl rvL (A ++ [x4])), Old w no] := H18
        refine l_of (s_val (v := .slice p15 ((A ++ [x4]).length) c16) (wt0 rfl) rfl rfl (x_assign rfl rfl) ?_)
        refine g_nil ?_
        refine g_in ?_
        refine g_then ?_
        refine g_region ?_
        refine l_of (s_val (v := .int .i64 (((i + 1 : Nat) : Int))) (wt0 rfl) rfl rfl (x_bin rfl rfl rfl (b_add (by rw [w64 (by omega)]; omega))) ?_)
        refine l_of (s_val (v := .int .i64 (((i + 1 : Nat) : Int))) (wt0 rfl) rfl rfl (x_move rfl rfl) ?_)
        refine g_nil ?_
        refine g_then ?_
        refine g_round (i := (i, pa, ca, A)) ((i + 1), p15, c16, (A ++ [x4])) ?_ ?_ ?_
        · exact ⟨rfl, rfl, rfl, rfl, rfl, trivial⟩
        · exact ⟨by omega, (absurd hb11 hw), (by first | omega | (simp only [List.length_append, List.length_cons, List.length_nil]; omega)), (H18.takes [2, 3] (by decide))⟩
        · (try dsimp only); omega
      · skip
        refine l_of (s_val (v := .pointer (some ⟨g5, 9, none⟩)) (wt1 rfl rfl rfl rfl (decide_eq_false hb11)) rfl rfl (x_fieldAddr rfl rfl fo30_9 rfl) ?_)
        refine l_of (s_val (v := .bool x4.seed) (wt1 rfl rfl rfl rfl (decide_eq_false hb11)) rfl rfl (x_load1 H9 0 rfl rfl Tryz.underlying4 rfl rfl rfl) ?_)
        refine l_of (s_val (v := .bool (!(x4.seed))) (wt1 rfl rfl rfl rfl (decide_eq_false hb11)) rfl rfl (x_not (b := x4.seed) rfl rfl) ?_)
        refine l_of (s_val (v := .bool (!(x4.seed))) (wt1 rfl rfl rfl rfl hb10) rfl rfl (x_pick_f rfl rfl (decide_eq_false hb11) rfl) ?_)
        refine l_of (s_val (v := .bool (!(x4.seed))) (wt0 rfl) rfl rfl (x_pick_t rfl rfl hb10 rfl) ?_)
        refine g_nil ?_
        refine g_then ?_
        refine g_weak [(0, .int .i64 way), (5, .slice pa A.length ca), (7, .pointer (some ⟨g5, 0, none⟩)), (8, .slice p n c), (9, .int .i64 ((n : Int))), (10, .int .i64 ((i : Int))), (24, .bool (!(x4.seed)))] ⟨rfl, rfl, rfl, rfl, rfl, rfl, rfl, trivial⟩ ?_
        rcases Bool.eq_false_or_eq_true (x4.seed) with hb20 | hb20
        · skip
          refine g_cond_f rfl (neg_of hb20) ?_
          refine g_skip ?_
          refine g_in ?_
          refine g_then ?_
          refine g_region ?_
          refine l_of (s_val (v := .int .i64 (((i + 1 : Nat) : Int))) (wt0 rfl) rfl rfl (x_bin rfl rfl rfl (b_add (by rw [w64 (by omega)]; omega))) ?_)
          refine l_of (s_val (v := .int .i64 (((i + 1 : Nat) : Int))) (wt0 rfl) rfl rfl (x_move rfl rfl) ?_)
          refine g_nil ?_
          refine g_then ?_
          refine g_round (i := (i, pa, ca, A)) ((i + 1), pa, ca, A) ?_ ?_ ?_
          · exact ⟨rfl, rfl, rfl, rfl, rfl, trivial⟩
          · exact ⟨by omega, (by rw [take_snocL hx4, List.filter_append, ← hA]; unfold qW; simp [hb10, hb20]), (by first | omega | (simp only [List.length_append, List.length_cons, List.length_nil]; omega)), (H9.takes [1, 2] (by decide))⟩
          · (try dsimp only); omega
        · skip
          refine g_cond_t rfl (neg_of hb20) ?_
          refine g_region ?_
          refine l_of (s_val (v := .slice pa A.length ca) (wt0 rfl) rfl rfl (x_move rfl rfl) ?_)
          refine l_of (s_val (v := .agg #[.int .i64 (x4.id), .bool x4.intr, .bool x4.chk, .int .i64 (x4.frm), .int .i64 (x4.to), .int .i64 (x4.lt), .int .i64 (x4.since), .bool x4.snb, .bool x4.now, .bool x4.seed]) (wt0 rfl) rfl rfl (x_loadA H9 0 rfl rfl Tryz.underlying30 rfl sz30 rfl rfl rfl) ?_)
          refine l_of (s_buildSlice H9 (wt0 rfl) rfl rfl rfl (vs := [.agg #[.int .i64 (x4.id), .bool x4.intr, .bool x4.chk, .int .i64 (x4.frm), .int .i64 (x4.to), .int .i64 (x4.lt), .int .i64 (x4.since), .bool x4.snb, .bool x4.now, .bool x4.seed]]) rfl Tryz.underlying22 sz30 ze30 rfl rfl (cells := #[.int .i64 (x4.id), .bool x4.intr, .bool x4.chk, .int .i64 (x4.frm), .int .i64 (x4.to), .int .i64 (x4.lt), .int .i64 (x4.since), .bool x4.snb, .bool x4.now, .bool x4.seed]) (by kernel_rfl) ?_)
          intro g21 wq22 H23
          have hln28a := (H23.rwReads (k := 2) rfl).lenL rvE
          have hln28 : (A ++ [x4]).length = A.length + 1 := by simp only [List.length_append, List.length_cons, List.length_nil] <;> omega
          refine l_of (s_appBn (m := 1) (l := A) (l2 := [x4]) rvE H23 2 (j0 := 0) rfl rfl ⟨rfl, Nat.le_refl _⟩ (wt0 rfl) rfl rfl rfl rfl rfl rfl Tryz.underlying22 inf30 rfl (by decide) (by omega) ?_)
          intro p24 c25 wq26 H27
          replace H27 : S wq26 [Ob g21 (.cells #[.int .i64 (x4.id), .bool x4.intr, .bool x4.chk, .int .i64 (x4.frm), .int .i64 (x4.to), .int .i64 (x4.lt), .int .i64 (x4.since), .bool x4.snb, .bool x4.now, .bool x4.seed] 30 (0, 0)), Ob g5 (.cells #[.int .i64 (x4.id), .bool x4.intr, .bool x4.chk, .int .i64 (x4.frm), .int .i64 (x4.to), .int .i64 (x4.lt), .int .i64 (x4.since), .bool x4.snb, .bool x4.now, .bool x4.seed] 30 (0, 0)), Rw 30 10 p24 ((A ++ [x4]).length) c25 (fl rvL (A ++ [x4])), Old w no] := H27
          refine l_of (s_val (v := .slice p24 ((A ++ [x4]).length) c25) (wt0 rfl) rfl rfl (x_assign rfl rfl) ?_)
          refine g_nil ?_
          refine g_in ?_
          refine g_then ?_
          refine g_region ?_
          refine l_of (s_val (v := .int .i64 (((i + 1 : Nat) : Int))) (wt0 rfl) rfl rfl (x_bin rfl rfl rfl (b_add (by rw [w64 (by omega)]; omega))) ?_)
          refine l_of (s_val (v := .int .i64 (((i + 1 : Nat) : Int))) (wt0 rfl) rfl rfl (x_move rfl rfl) ?_)
          refine g_nil ?_
          refine g_then ?_
          refine g_round (i := (i, pa, ca, A)) ((i + 1), p24, c25, (A ++ [x4])) ?_ ?_ ?_
          · exact ⟨rfl, rfl, rfl, rfl, rfl, trivial⟩
          · exact ⟨by omega, (by rw [take_snocL hx4, List.filter_append, ← hA]; unfold qW; simp [hb10, hb20]), (by first | omega | (simp only [List.length_append, List.length_cons, List.length_nil]; omega)), (H27.takes [2, 3] (by decide))⟩
          · (try dsimp only); omega
    · skip
      refine l_of (s_not (wn1 rfl rfl rfl rfl hb10) rfl rfl ?_)
      refine l_of (s_not (wn1 rfl rfl rfl rfl hb10) rfl rfl ?_)
      refine l_of (s_not (wn1 rfl rfl rfl rfl hb10) rfl rfl ?_)
      refine l_of (s_not (wn2 rfl rfl rfl rfl) rfl rfl ?_)
      refine l_of (s_not (wn2 rfl rfl rfl rfl) rfl rfl ?_)
      refine l_of (s_not (wn2 rfl rfl rfl rfl) rfl rfl ?_)
      refine l_of (s_not (wn1 rfl rfl rfl rfl hb10) rfl rfl ?_)
      refine l_of (s_val (v := .bool false) (wt0 rfl) rfl rfl (x_pick_f rfl rfl hb10 rfl) ?_)
      refine g_nil ?_
      refine g_then ?_
      refine g_weak [(0, .int .i64 way), (5, .slice pa A.length ca), (7, .pointer (some ⟨g5, 0, none⟩)), (8, .slice p n c), (9, .int .i64 ((n : Int))), (10, .int .i64 ((i : Int))), (24, .bool false)] ⟨rfl, rfl, rfl, rfl, rfl, rfl, rfl, trivial⟩ ?_
      refine g_cond_f rfl rfl ?_
      refine g_skip ?_
      refine g_in ?_
      refine g_then ?_
      refine g_region ?_
      refine l_of (s_val (v := .int .i64 (((i + 1 : Nat) : Int))) (wt0 rfl) rfl rfl (x_bin rfl rfl rfl (b_add (by rw [w64 (by omega)]; omega))) ?_)
      refine l_of (s_val (v := .int .i64 (((i + 1 : Nat) : Int))) (wt0 rfl) rfl rfl (x_move rfl rfl) ?_)
      refine g_nil ?_
      refine g_then ?_
      refine g_round (i := (i, pa, ca, A)) ((i + 1), pa, ca, A) ?_ ?_ ?_
      · exact ⟨rfl, rfl, rfl, rfl, rfl, trivial⟩
      · exact ⟨by omega, (by rw [take_snocL hx4, List.filter_append, ← hA]; unfold qW; simp [hb10]), (by first | omega | (simp only [List.length_append, List.length_cons, List.length_nil]; omega)), (H9.takes [1, 2] (by decide))⟩
      · (try dsimp only); omega
  · skip
    refine g_cond_f rfl (decide_eq_false hb3) ?_
    refine g_exit ?_
    refine g_then_exit ?_
    refine g_then_exit ?_
    refine g_in_hit ?_
    refine g_then ?_
    refine g_seq ?_
    refine g_region ?_
    refine l_of (s_val (v := .slice pa A.length ca) (wt0 rfl) rfl rfl (x_move rfl rfl) ?_)
    refine l_of (s_val (v := .slice pa A.length ca) (wt0 rfl) rfl rfl (x_assign rfl rfl) ?_)
    refine g_nil ?_
    refine g_then ?_
    refine g_ret ?_
    refine fin_ret [.tmp 4] [.slice pa A.length ca] rfl ⟨rfl, trivial⟩ ?_
    rw [List.take_of_length_le (by omega)] at hA
    rw [← hA]
    exact ⟨_, _, rfl, H2.takes [0, 1] (by decide)⟩
end Go.Proofs.YthfglkkjkpdkpaaGreatDoor
namespace Go.Proofs.YthfglkkjkpdkpaaGreatDoor
open Go.RowKit

theorem cl34 : callable Tryz.prog 34 = true := by kernel_rfl
theorem cl35 : callable Tryz.prog 35 = true := by kernel_rfl
theorem cl8 : callable Tryz.prog 8 = true := by kernel_rfl
theorem take_is {c : Rv → Rv → Int} {L o t : List Rv} {k : Nat} (hs : srt Rv.zero c L = o ++ t) (ho : o.length ≤ k) (he : o.length = k ∨ t = []) : (srt Rv.zero c L).take k = o := by
  rw [hs]
  rcases he with he | he
  · rw [← he]; exact List.take_left
  · subst he; rw [List.append_nil]; exact List.take_of_length_le ho
theorem end_nil {c : Rv → Rv → Int} {k m : Nat} {B : List Rv} (h : k = m ∨ B.length = 0) : k = m ∨ srt Rv.zero c B = [] := h.imp_right fun h => List.eq_nil_of_length_eq_zero (by rw [srt_len, h])
noncomputable def rest1 (l : List Rv) (slots : Int) : List Rv := (l.filter qW).filter (fun x : Rv => !decide (x.id ∈ (reg1 l slots).map Rv.id))
noncomputable def let1 (round slots : Int) (seed : ByteArray) (l : List Rv) : List Rv := reg1 l slots ++ (srt Rv.zero (cO round seed) (rest1 l slots)).take (slots.toNat - (reg1 l slots).length)
set_option maxRecDepth 20000 in
set_option maxHeartbeats 4000000 in
set_option maxRecDepth 20000 in
set_option maxHeartbeats 4000000 in
theorem let1_r (round slots : Int) (seed : ByteArray) (hsd2 : seed.size ≤ 200) (hrd2 : 0 ≤ round ∧ round ≤ 9223372036854775807) (hsl : 0 ≤ slots ∧ slots ≤ 100) (l : List Rv) (p : Option Addr) (n c : Nat) (hn2 : n ≤ 30) (hval : ∀ x ∈ l, validR x = true)  (w : World) (hr : Reads w p n c 10 (fl rvL l)) (ht : PowTab w) : Calls Tryz.prog 23 #[.int .i64 1, .int .i64 round, .int .i64 slots, .string seed, .slice p n c] w fun e w' => ∃ p' c', e = .returned (.slice p' (sortI ((let1 round slots seed l).map Rv.id)).length c') ∧ S w' ([Rw 3 1 p' (sortI ((let1 round slots seed l).map Rv.id)).length c' (fl intL (sortI ((let1 round slots seed l).map Rv.id)))] ++ [Old w no]) := by
  have H0 := S.old w
  have hnl := hr.lenL rvE
  have hfw : (l.filter qW).length ≤ 30 := by have := List.length_filter_le qW l; omega
  have hrl : (rest1 l slots).length ≤ 30 := by unfold rest1; have := List.length_filter_le (fun x : Rv => !decide (x.id ∈ (reg1 l slots).map Rv.id)) (l.filter qW); omega
  have hrg : (reg1 l slots).length ≤ (slots - 1).toNat := by unfold reg1; rw [List.length_take]; omega
  have hrm : ((reg1 l slots).map Rv.id).length = (reg1 l slots).length := List.length_map _
  refine enter 111 Tryz.func23 rfl rfl rfl ?_
  refine g_weak [(0, .int .i64 1), (1, .int .i64 round), (2, .int .i64 slots), (3, .string seed), (4, .slice p n c)] ⟨rfl, rfl, rfl, rfl, rfl, trivial⟩ ?_
  refine g_seq ?_
  refine g_region ?_
  refine l_of (s_val (v := .slice none 0 0) (wt0 rfl) rfl rfl (x_assign rfl rfl) ?_)
  refine g_nil ?_
  refine g_then ?_
  refine g_seq ?_
  refine g_region ?_
  refine l_of (s_val (v := .int .i64 1) (wt0 rfl) rfl rfl (x_move rfl rfl) ?_)
  refine l_of (s_val (v := .slice p n c) (wt0 rfl) rfl rfl (x_move rfl rfl) ?_)
  refine l_of (s_call (wt0 rfl) (x_call' rfl rfl cl16) (inter_r l p n c (by omega) _ (H0.exReads (k := 0) rfl hr (fun _ _ _ h => h))) ?_)
  rintro _ wq1 ⟨pi, ci, rfl, H2⟩
  replace H2 : S wq1 [Rw 30 10 pi ((l.filter qW).length) ci (fl rvL (l.filter qW)), Old w no] := H0.absorb (new := [Rw 30 10 pi ((l.filter qW).length) ci (fl rvL (l.filter qW))]) H2
  refine b_ret rfl rfl ?_
  refine l_of (s_val (v := .slice pi ((l.filter qW).length) ci) (wt0 rfl) rfl rfl (x_assign rfl rfl) ?_)
  refine g_nil ?_
  refine g_then ?_
  refine g_seq ?_
  refine g_region ?_
  refine l_of (s_val (v := .slice none 0 0) (wt0 rfl) rfl rfl (x_assign rfl rfl) ?_)
  refine g_nil ?_
  refine g_then ?_
  refine g_seq ?_
  refine g_seq ?_
  refine g_region ?_
  refine l_of (s_val (v := .int .i64 1) (wt0 rfl) rfl rfl (x_move rfl rfl) ?_)
  refine l_of (s_val (v := .bool (decide ((1 : Int) = 1))) (wt0 rfl) rfl rfl (x_bin rfl rfl rfl b_eql) ?_)
  refine g_nil ?_
  refine g_then ?_
  refine g_cond_t rfl (decide_eq_true rfl) ?_
  refine g_seq ?_
  refine g_region ?_
  refine l_of (s_val (v := .int .i64 slots) (wt0 rfl) rfl rfl (x_move rfl rfl) ?_)
  refine l_of (s_val (v := .slice p n c) (wt0 rfl) rfl rfl (x_move rfl rfl) ?_)
  refine l_of (s_call (wt0 rfl) (x_call' rfl rfl cl8) (regular_r slots hsl l p n c hn2 hval _ (H2.exReads (k := 1) rfl hr (fun _ _ _ h => h))) ?_)
  rintro _ wq3 ⟨pr, cr, rfl, H4⟩
  replace H4 : S wq3 [Rw 3 1 pr (((reg1 l slots).map Rv.id).length) cr (fl intL ((reg1 l slots).map Rv.id)), Rw 30 10 pi ((l.filter qW).length) ci (fl rvL (l.filter qW)), Old w no] := H2.absorb (new := [Rw 3 1 pr (((reg1 l slots).map Rv.id).length) cr (fl intL ((reg1 l slots).map Rv.id))]) H4
  refine b_ret rfl rfl ?_
  refine l_of (s_val (v := .slice pr (((reg1 l slots).map Rv.id).length) cr) (wt0 rfl) rfl rfl (x_assign rfl rfl) ?_)
  refine g_nil ?_
  refine g_then ?_
  refine g_seq ?_
  refine g_region ?_
  refine l_of (s_val (v := .slice none 0 0) (wt0 rfl) rfl rfl (x_assign rfl rfl) ?_)
  refine g_nil ?_
  refine g_then ?_
  refine g_seq ?_
  refine g_seq ?_
  refine g_region ?_
  refine l_of (s_val (v := .slice pi ((l.filter qW).length) ci) (wt0 rfl) rfl rfl (x_move rfl rfl) ?_)
  refine l_of (s_val (v := .int .i64 (((l.filter qW).length : Int))) (wt0 rfl) rfl rfl (x_lenl rfl rfl Tryz.underlying22) ?_)
  refine l_of (s_val (v := .int .i64 0) (wt0 rfl) rfl rfl (x_move rfl rfl) ?_)
  refine g_nil ?_
  refine g_then ?_
  refine g_weak [(1, .int .i64 round), (2, .int .i64 slots), (3, .string seed), (12, .slice pr (((reg1 l slots).map Rv.id).length) cr), (13, .slice none 0 0), (26, .slice pi ((l.filter qW).length) ci), (27, .int .i64 (((l.filter qW).length : Int))), (28, .int .i64 0)] ⟨rfl, rfl, rfl, rfl, rfl, rfl, rfl, rfl, trivial⟩ ?_
  refine g_block ?_
  refine g_loop (ι := Nat × Option Addr × Nat × List Rv) (fun (i, pa, ca, A) => [(1, .int .i64 round), (2, .int .i64 slots), (3, .string seed), (12, .slice pr (((reg1 l slots).map Rv.id).length) cr), (13, .slice pa A.length ca), (26, .slice pi ((l.filter qW).length) ci), (27, .int .i64 (((l.filter qW).length : Int))), (28, .int .i64 ((i : Int)))]) (fun (i, pa, ca, A) wx => (i ≤ (l.filter qW).length) ∧ (A = ((l.filter qW).take i).filter (fun x : Rv => !decide (x.id ∈ (reg1 l slots).map Rv.id))) ∧ (A.length ≤ i) ∧ S wx [Rw 30 10 pa A.length ca (fl rvL A), Rw 30 10 pi ((l.filter qW).length) ci (fl rvL (l.filter qW)), Rw 3 1 pr (((reg1 l slots).map Rv.id).length) cr (fl intL ((reg1 l slots).map Rv.id)), Old w no]) (fun (i, pa, ca, A) => ((l.filter qW).length) - i) (0, none, 0, []) ⟨rfl, rfl, rfl, rfl, rfl, rfl, rfl, rfl, trivial⟩ ⟨Nat.zero_le _, (by rw [List.take_zero]; rfl), (Nat.le_refl 0), ((H4.takes [1, 0, 2] (by decide)).nilFl 30 10 rvL)⟩ ?_
  rintro ⟨i, pa, ca, A⟩ wq5 ⟨hi, hA, hAl, H6⟩
  replace H6 : S wq5 [Rw 30 10 pa A.length ca (fl rvL A), Rw 30 10 pi ((l.filter qW).length) ci (fl rvL (l.filter qW)), Rw 3 1 pr (((reg1 l slots).map Rv.id).length) cr (fl intL ((reg1 l slots).map Rv.id)), Old w no] := H6
  refine g_weak [(1, .int .i64 round), (2, .int .i64 slots), (3, .string seed), (12, .slice pr (((reg1 l slots).map Rv.id).length) cr), (13, .slice pa A.length ca), (26, .slice pi ((l.filter qW).length) ci), (27, .int .i64 (((l.filter qW).length : Int))), (28, .int .i64 ((i : Int)))] ⟨rfl, rfl, rfl, rfl, rfl, rfl, rfl, rfl, trivial⟩ ?_
  refine g_seq ?_
  refine g_region ?_
  refine l_of (s_val (v := .bool (decide (((i : Int) : Int) < ((l.filter qW).length : Int)))) (wt0 rfl) rfl rfl (x_bin rfl rfl rfl b_lss) ?_)
  refine g_nil ?_
  refine g_then ?_
  refine g_seq ?_
  by_cases hb7 : ((i : Int) : Int) < ((l.filter qW).length : Int)
  · skip
    refine g_cond_t rfl (decide_eq_true hb7) ?_
    refine g_skip ?_
    refine g_then ?_
    refine g_seq ?_
    refine g_block ?_
    refine g_seq ?_
    refine g_region ?_
    refine l_of (s_val (v := .pointer ((pi).map fun q => q.add (i * 10))) (wt0 rfl) rfl rfl (x_idxR i (H6.rwReads (k := 1) rfl) rfl rfl rfl Tryz.underlying22 sz30 (by omega)) ?_)
    have hlq := (H6.rwReads (k := 1) rfl).lenL rvE
    obtain ⟨x8, hx8⟩ := ex_at (l := (l.filter qW)) (j := i) (by omega)
    clear hlq
    refine l_of (s_val (v := .agg #[.int .i64 (x8.id), .bool x8.intr, .bool x8.chk, .int .i64 (x8.frm), .int .i64 (x8.to), .int .i64 (x8.lt), .int .i64 (x8.since), .bool x8.snb, .bool x8.now, .bool x8.seed]) (wt0 rfl) rfl rfl (x_loadRA (vs := rvL x8) i (H6.rwReads (k := 1) rfl) (by omega) rfl rfl Tryz.underlying30 rfl sz30 (by rfl) (rvE.flAt hx8)) ?_)
    refine l_of (s_alloc H6 (wt0 rfl) rfl rfl rfl ze30 ?_)
    intro g9 wq10 H11
    refine l_of (s_store H11 0 (wt0 rfl) rfl rfl rfl rfl rfl sz30 rfl rfl (cs' := #[.int .i64 (x8.id), .bool x8.intr, .bool x8.chk, .int .i64 (x8.frm), .int .i64 (x8.to), .int .i64 (x8.lt), .int .i64 (x8.since), .bool x8.snb, .bool x8.now, .bool x8.seed]) rfl ?_)
    intro wq12 H13
    refine g_nil ?_
    refine g_then ?_
    refine g_seq ?_
    refine g_region ?_
    refine l_of (s_val (v := .slice pr (((reg1 l slots).map Rv.id).length) cr) (wt0 rfl) rfl rfl (x_move rfl rfl) ?_)
    refine l_of (s_val (v := .pointer (some ⟨g9, 0, none⟩)) (wt0 rfl) rfl rfl (x_fieldAddr rfl rfl fo30_0 rfl) ?_)
    refine l_of (s_val (v := .int .i64 (x8.id)) (wt0 rfl) rfl rfl (x_load1 H13 0 rfl rfl Tryz.underlying3 rfl rfl rfl) ?_)
    refine l_of (s_call (wt0 rfl) (x_call' rfl rfl cl34) (in_r ((reg1 l slots).map Rv.id) pr (((reg1 l slots).map Rv.id).length) cr x8.id (by omega) _ (H13.rwReads (k := 3) rfl)) ?_)
    rintro _ wq14 ⟨rfl, H15⟩
    replace H15 : S wq14 [Ob g9 (.cells #[.int .i64 (x8.id), .bool x8.intr, .bool x8.chk, .int .i64 (x8.frm), .int .i64 (x8.to), .int .i64 (x8.lt), .int .i64 (x8.since), .bool x8.snb, .bool x8.now, .bool x8.seed] 30 (0, 0)), Rw 30 10 pa A.length ca (fl rvL A), Rw 30 10 pi ((l.filter qW).length) ci (fl rvL (l.filter qW)), Rw 3 1 pr (((reg1 l slots).map Rv.id).length) cr (fl intL ((reg1 l slots).map Rv.id)), Old w no] := H13.absorb (new := []) H15
    refine b_ret rfl rfl ?_
    refine l_of (s_val (v := .bool (!((decide (x8.id ∈ ((reg1 l slots).map Rv.id)))))) (wt0 rfl) rfl rfl (x_not (b := (decide (x8.id ∈ ((reg1 l slots).map Rv.id)))) rfl rfl) ?_)
    refine g_nil ?_
    refine g_then ?_
    rcases Bool.eq_false_or_eq_true ((decide (x8.id ∈ ((reg1 l slots).map Rv.id)))) with hb16 | hb16
    · skip
      refine g_cond_f rfl (neg_of hb16) ?_
      refine g_skip ?_
      refine g_in ?_
      refine g_then ?_
      refine g_region ?_
      refine l_of (s_val (v := .int .i64 (((i + 1 : Nat) : Int))) (wt0 rfl) rfl rfl (x_bin rfl rfl rfl (b_add (by rw [w64 (by omega)]; omega))) ?_)
      refine l_of (s_val (v := .int .i64 (((i + 1 : Nat) : Int))) (wt0 rfl) rfl rfl (x_move rfl rfl) ?_)
      refine g_nil ?_
      refine g_then ?_
      refine g_round (i := (i, pa, ca, A)) ((i + 1), pa, ca, A) ?_ ?_ ?_
      · exact ⟨rfl, rfl, rfl, rfl, rfl, rfl, rfl, rfl, trivial⟩
      · exact ⟨by omega, (by rw [take_snocL hx8, List.filter_append, ← hA, List.filter_cons, hb16]; simp), (by first | omega | (simp only [List.length_append, List.length_cons, List.length_nil]; omega)), (H15.takes [1, 2, 3, 4] (by decide))⟩
      · (try dsimp only); omega
    · skip
      refine g_cond_t rfl (neg_of hb16) ?_
      refine g_region ?_
      refine l_of (s_val (v := .slice pa A.length ca) (wt0 rfl) rfl rfl (x_move rfl rfl) ?_)
      refine l_of (s_val (v := .agg #[.int .i64 (x8.id), .bool x8.intr, .bool x8.chk, .int .i64 (x8.frm), .int .i64 (x8.to), .int .i64 (x8.lt), .int .i64 (x8.since), .bool x8.snb, .bool x8.now, .bool x8.seed]) (wt0 rfl) rfl rfl (x_loadA H15 0 rfl rfl Tryz.underlying30 rfl sz30 rfl rfl rfl) ?_)
      refine l_of (s_buildSlice H15 (wt0 rfl) rfl rfl rfl (vs := [.agg #[.int .i64 (x8.id), .bool x8.intr, .bool x8.chk, .int .i64 (x8.frm), .int .i64 (x8.to), .int .i64 (x8.lt), .int .i64 (x8.since), .bool x8.snb, .bool x8.now, .bool x8.seed]]) rfl Tryz.underlying22 sz30 ze30 rfl rfl (cells := #[.int .i64 (x8.id), .bool x8.intr, .bool x8.chk, .int .i64 (x8.frm), .int .i64 (x8.to), .int .i64 (x8.lt), .int .i64 (x8.since), .bool x8.snb, .bool x8.now, .bool x8.seed]) (by kernel_rfl) ?_)
      intro g17 wq18 H19
      have hln24a := (H19.rwReads (k := 2) rfl).lenL rvE
      have hln24 : (A ++ [x8]).length = A.length + 1 := by simp only [List.length_append, List.length_cons, List.length_nil] <;> omega
      refine l_of (s_appBn (m := 1) (l := A) (l2 := [x8]) rvE H19 2 (j0 := 0) rfl rfl ⟨rfl, Nat.le_refl _⟩ (wt0 rfl) rfl rfl rfl rfl rfl rfl Tryz.underlying22 inf30 rfl (by decide) (by omega) ?_)
      intro p20 c21 wq22 H23
      replace H23 : S wq22 [Ob g17 (.cells #[.int .i64 (x8.id), .bool x8.intr, .bool x8.chk, .int .i64 (x8.frm), .int .i64 (x8.to), .int .i64 (x8.lt), .int .i64 (x8.since), .bool x8.snb, .bool x8.now, .bool x8.seed] 30 (0, 0)), Ob g9 (.cells #[.int .i64 (x8.id), .bool x8.intr, .bool x8.chk, .int .i64 (x8.frm), .int .i64 (x8.to), .int .i64 (x8.lt), .int .i64 (x8.since), .bool x8.snb, .bool x8.now, .bool x8.seed] 30 (0, 0)), Rw 30 10 p20 ((A ++ [x8]).length) c21 (fl rvL (A ++ [x8])), Rw 30 10 pi ((l.filter qW).length) ci (fl rvL (l.filter qW)), Rw 3 1 pr (((reg1 l slots).map Rv.id).length) cr (fl intL ((reg1 l slots).map Rv.id)), Old w no] := H23
      refine l_of (s_val (v := .slice p20 ((A ++ [x8]).length) c21) (wt0 rfl) rfl rfl (x_assign rfl rfl) ?_)
      refine g_nil ?_
      refine g_in ?_
      refine g_then ?_
      refine g_weak [(1, .int .i64 round), (2, .int .i64 slots), (3, .string seed), (12, .slice pr (((reg1 l slots).map Rv.id).length) cr), (13, .slice p20 ((A ++ [x8]).length) c21), (26, .slice pi ((l.filter qW).length) ci), (27, .int .i64 (((l.filter qW).length : Int))), (28, .int .i64 ((i : Int)))] ⟨rfl, rfl, rfl, rfl, rfl, rfl, rfl, rfl, trivial⟩ ?_
      refine g_region ?_
      refine l_of (s_val (v := .int .i64 (((i + 1 : Nat) : Int))) (wt0 rfl) rfl rfl (x_bin rfl rfl rfl (b_add (by rw [w64 (by omega)]; omega))) ?_)
      refine l_of (s_val (v := .int .i64 (((i + 1 : Nat) : Int))) (wt0 rfl) rfl rfl (x_move rfl rfl) ?_)
      refine g_nil ?_
      refine g_then ?_
      refine g_round (i := (i, pa, ca, A)) ((i + 1), p20, c21, (A ++ [x8])) ?_ ?_ ?_
      · exact ⟨rfl, rfl, rfl, rfl, rfl, rfl, rfl, rfl, trivial⟩
      · exact ⟨by omega, (by rw [take_snocL hx8, List.filter_append, ← hA, List.filter_cons, hb16]; simp), (by first | omega | (simp only [List.length_append, List.length_cons, List.length_nil]; omega)), (H23.takes [2, 3, 4, 5] (by decide))⟩
      · (try dsimp only); omega
  · skip
    refine g_cond_f rfl (decide_eq_false hb7) ?_
    refine g_exit ?_
    refine g_then_exit ?_
    refine g_then_exit ?_
    refine g_in_hit ?_
    refine g_then ?_
    refine g_seq ?_
    refine g_block ?_
    refine g_loop (ι := Option Addr × Nat × List Rv × Option Addr × Nat × List Int × List Rv) (fun (pb, cb, B9, po, co, O, o9) => [(1, .int .i64 round), (2, .int .i64 slots), (3, .string seed), (12, .slice po O.length co), (13, .slice pb B9.length cb)]) (fun (pb, cb, B9, po, co, O, o9) wx => (Picks (cO round seed) (rest1 l slots) o9 B9) ∧ (O = (reg1 l slots ++ o9).map Rv.id) ∧ (o9.length ≤ slots.toNat - (reg1 l slots).length) ∧ S wx [Rw 30 10 pb B9.length cb (fl rvL B9), Rw 3 1 po O.length co (fl intL O), Old w no]) (fun (pb, cb, B9, po, co, O, o9) => B9.length) (pa, ca, A, pr, cr, ((reg1 l slots).map Rv.id), []) ⟨rfl, rfl, rfl, rfl, rfl, trivial⟩ ⟨(by rw [hA, List.take_of_length_le (by omega)]; exact Picks.nil), (by rw [List.append_nil]), (Nat.zero_le _), (H6.takes [0, 2, 3] (by decide))⟩ ?_
    rintro ⟨pb, cb, B9, po, co, O, o9⟩ wq25 ⟨hP, hO, hOs, H26⟩
    replace H26 : S wq25 [Rw 30 10 pb B9.length cb (fl rvL B9), Rw 3 1 po O.length co (fl intL O), Old w no] := H26
    refine g_weak [(1, .int .i64 round), (2, .int .i64 slots), (3, .string seed), (12, .slice po O.length co), (13, .slice pb B9.length cb)] ⟨rfl, rfl, rfl, rfl, rfl, trivial⟩ ?_
    refine g_seq ?_
    refine g_seq ?_
    refine g_region ?_
    refine l_of (s_val (v := .slice po O.length co) (wt0 rfl) rfl rfl (x_move rfl rfl) ?_)
    refine l_of (s_val (v := .int .i64 ((O.length : Int))) (wt0 rfl) rfl rfl (x_lenl rfl rfl Tryz.underlying24) ?_)
    refine l_of (s_val (v := .int .i64 slots) (wt0 rfl) rfl rfl (x_move rfl rfl) ?_)
    refine l_of (s_val (v := .bool (decide (((O.length : Int) : Int) < slots))) (wt0 rfl) rfl rfl (x_bin rfl rfl rfl b_lss) ?_)
    refine l_of (s_val (v := .bool (decide (((O.length : Int) : Int) < slots))) (wt0 rfl) rfl rfl (x_move rfl rfl) ?_)
    by_cases hb27 : ((O.length : Int) : Int) < slots
    · skip
      refine l_of (s_val (v := .slice pb B9.length cb) (wt1 rfl rfl rfl rfl (decide_eq_true hb27)) rfl rfl (x_move rfl rfl) ?_)
      refine l_of (s_val (v := .int .i64 ((B9.length : Int))) (wt1 rfl rfl rfl rfl (decide_eq_true hb27)) rfl rfl (x_lenl rfl rfl Tryz.underlying22) ?_)
      refine l_of (s_val (v := .bool (decide ((0 : Int) < (B9.length : Int)))) (wt1 rfl rfl rfl rfl (decide_eq_true hb27)) rfl rfl (x_bin rfl rfl rfl b_gtr) ?_)
      refine l_of (s_val (v := .bool (decide ((0 : Int) < (B9.length : Int)))) (wt0 rfl) rfl rfl (x_pick_t rfl rfl (decide_eq_true hb27) rfl) ?_)
      refine g_nil ?_
      refine g_then ?_
      by_cases hb28 : (0 : Int) < (B9.length : Int)
      · skip
        refine g_cond_t rfl (decide_eq_true hb28) ?_
        refine g_skip ?_
        refine g_then ?_
        refine g_block ?_
        refine g_seq ?_
        refine g_region ?_
        refine l_of (s_val (v := .int .i64 round) (wt0 rfl) rfl rfl (x_move rfl rfl) ?_)
        refine l_of (s_val (v := .string seed) (wt0 rfl) rfl rfl (x_move rfl rfl) ?_)
        refine l_of (s_val (v := .slice pb B9.length cb) (wt0 rfl) rfl rfl (x_move rfl rfl) ?_)
        have hBl : B9.length ≤ 30 := Nat.le_trans hP.sub.length_le hrl
        have hop := hP.len
        have hOl : O.length = (reg1 l slots).length + o9.length := by rw [hO, List.length_map, List.length_append]
        have hDB : ∀ x ∈ B9, DV x := fun x hx => validR_D (hval x (List.mem_filter.1 (List.mem_filter.1 (hP.sub.subset hx)).1).1)
        refine l_of (s_call (wt0 rfl) (x_call' rfl rfl cl25) (lucky_r round seed hsd2 hrd2 B9 pb B9.length cb (by omega) (by omega) hDB _ (H26.rwReads (k := 0) rfl) (H26.tab (k := 2) rfl ht)) ?_)
        rintro _ wq29 ⟨j9, x9, rfl, hB9, H30⟩
        replace H30 : S wq29 [Rw 30 10 pb B9.length cb (fl rvL B9), Rw 3 1 po O.length co (fl intL O), Old w no] := H26.absorb (new := []) H30
        have hjl9 := hB9.1
        refine b_ret rfl rfl ?_
        refine l_of (s_val (v := .int .i64 ((j9 : Int))) (wt0 rfl) rfl rfl (x_assign rfl rfl) ?_)
        refine g_nil ?_
        refine g_then ?_
        refine g_weak [(1, .int .i64 round), (2, .int .i64 slots), (3, .string seed), (12, .slice po O.length co), (13, .slice pb B9.length cb), (16, .int .i64 ((j9 : Int)))] ⟨rfl, rfl, rfl, rfl, rfl, rfl, trivial⟩ ?_
        refine g_seq ?_
        refine g_region ?_
        refine l_of (s_val (v := .slice po O.length co) (wt0 rfl) rfl rfl (x_move rfl rfl) ?_)
        refine l_of (s_val (v := .slice pb B9.length cb) (wt0 rfl) rfl rfl (x_move rfl rfl) ?_)
        refine l_of (s_val (v := .int .i64 ((j9 : Int))) (wt0 rfl) rfl rfl (x_move rfl rfl) ?_)
        refine l_of (s_val (v := .pointer ((pb).map fun q => q.add (j9 * 10))) (wt0 rfl) rfl rfl (x_idxR j9 (H30.rwReads (k := 0) rfl) rfl rfl rfl Tryz.underlying22 sz30 (by omega)) ?_)
        refine l_of (s_val (v := .pointer ((pb).map fun q => q.add (j9 * 10 + 0))) (wt0 rfl) rfl rfl (ex_cast (x_fieldAddrG (m := j9 * 10) ((H30.rwReads (k := 0) rfl).some (by omega)) rfl rfl fo30_0) rfl) ?_)
        refine l_of (s_val (v := .int .i64 (x9.id)) (wt0 rfl) rfl rfl (x_loadF1 (i := 0) (j := j9) rvE (H30.rwReads (k := 0) rfl) hB9.2.1 rfl rfl Tryz.underlying3 rfl rfl) ?_)
        refine l_of (s_buildSlice H30 (wt0 rfl) rfl rfl rfl (vs := [.int .i64 (x9.id)]) rfl Tryz.underlying24 sz3 ze3 rfl rfl (cells := #[.int .i64 (x9.id)]) (by kernel_rfl) ?_)
        intro g31 wq32 H33
        have hln38a := (H33.rwReads (k := 2) rfl).lenL intE
        have hln38 : (O ++ [x9.id]).length = O.length + 1 := by simp only [List.length_append, List.length_cons, List.length_nil] <;> omega
        refine l_of (s_appBn (m := 1) (l := O) (l2 := [x9.id]) intE H33 2 (j0 := 0) rfl rfl ⟨rfl, Nat.le_refl _⟩ (wt0 rfl) rfl rfl rfl rfl rfl rfl Tryz.underlying24 inf3 rfl (by decide) (by omega) ?_)
        intro p34 c35 wq36 H37
        replace H37 : S wq36 [Ob g31 (.cells #[.int .i64 (x9.id)] 3 (0, 0)), Rw 30 10 pb B9.length cb (fl rvL B9), Rw 3 1 p34 ((O ++ [x9.id]).length) c35 (fl intL (O ++ [x9.id])), Old w no] := H37
        refine l_of (s_val (v := .slice p34 ((O ++ [x9.id]).length) c35) (wt0 rfl) rfl rfl (x_assign rfl rfl) ?_)
        refine g_nil ?_
        refine g_then ?_
        refine g_region ?_
        refine l_of (s_val (v := .slice pb B9.length cb) (wt0 rfl) rfl rfl (x_move rfl rfl) ?_)
        refine l_of (s_val (v := .int .i64 ((j9 : Int))) (wt0 rfl) rfl rfl (x_move rfl rfl) ?_)
        refine l_of (s_call (wt0 rfl) (x_call' rfl rfl cl21) (without_r B9 pb B9.length cb (by omega) j9 (by omega) _ (H37.rwReads (k := 1) rfl)) ?_)
        rintro _ wq41 ⟨pw39, cw40, rfl, H42⟩
        replace H42 : S wq41 [Rw 30 10 pw39 ((B9.eraseIdx j9).length) cw40 (fl rvL (B9.eraseIdx j9)), Ob g31 (.cells #[.int .i64 (x9.id)] 3 (0, 0)), Rw 30 10 pb B9.length cb (fl rvL B9), Rw 3 1 p34 ((O ++ [x9.id]).length) c35 (fl intL (O ++ [x9.id])), Old w no] := H37.absorb (new := [Rw 30 10 pw39 ((B9.eraseIdx j9).length) cw40 (fl rvL (B9.eraseIdx j9))]) H42
        refine b_ret rfl rfl ?_
        refine l_of (s_val (v := .slice pw39 ((B9.eraseIdx j9).length) cw40) (wt0 rfl) rfl rfl (x_assign rfl rfl) ?_)
        refine g_nil ?_
        refine g_in ?_
        refine g_then ?_
        refine g_round (i := (pb, cb, B9, po, co, O, o9)) (pw39, cw40, (B9.eraseIdx j9), p34, c35, (O ++ [x9.id]), (o9 ++ [x9])) ?_ ?_ ?_
        · exact ⟨rfl, rfl, rfl, rfl, rfl, trivial⟩
        · exact ⟨(Picks.step hP hB9), (by rw [hO, ← List.append_assoc, List.map_append (l₂ := [x9])]; rfl), (by rw [List.length_append, List.length_singleton]; omega), (H42.takes [0, 3, 4] (by decide))⟩
        · (try dsimp only); rw [List.length_eraseIdx_of_lt hB9.1]; have := hB9.1; omega
      · skip
        refine g_cond_f rfl (decide_eq_false hb28) ?_
        refine g_exit ?_
        refine g_then_exit ?_
        refine g_then_exit ?_
        refine g_in_hit ?_
        refine g_then ?_
        refine g_weak [(12, .slice po O.length co)] ⟨rfl, trivial⟩ ?_
        refine g_seq ?_
        refine g_region ?_
        refine l_of (s_val (v := .slice po O.length co) (wt0 rfl) rfl rfl (x_move rfl rfl) ?_)
        have hop := hP.len
        have hOl : O.length = (reg1 l slots).length + o9.length := by rw [hO, List.length_map, List.length_append]
        refine l_of (s_call (wt0 rfl) (x_call' rfl rfl cl35) (asc_r O po O.length co (by omega) _ (H26.takes [1] (by decide))) ?_)
        rintro _ wq43 ⟨rfl, H44⟩
        replace H44 : S wq43 [Rw 3 1 po O.length co (fl intL (sortI O)), Rw 30 10 pb B9.length cb (fl rvL B9), Old w no] := H26.absorbI (new := [Rw 3 1 po O.length co (fl intL (sortI O))]) [1] H44
        refine b_ret rfl rfl ?_
        refine l_of (s_val (v := .slice po O.length co) (wt0 rfl) rfl rfl (x_assign rfl rfl) ?_)
        refine g_nil ?_
        refine g_then ?_
        refine g_ret ?_
        refine g_then_ret ?_
        refine fin_ret [.tmp 10] [.slice po O.length co] rfl ⟨rfl, trivial⟩ ?_
        have hsr := (hP.srt (d := Rv.zero) (cO_wk round seed) (by omega)).2
        have hlt : let1 round slots seed l = reg1 l slots ++ o9 := by unfold let1; rw [take_is hsr hOs (end_nil (by omega))]
        have he : sortI O = (sortI ((let1 round slots seed l).map Rv.id)) := by rw [hlt, hO]
        have hel : (sortI ((let1 round slots seed l).map Rv.id)).length = O.length := by rw [← he, sortI_len]
        rw [hel, ← he]
        exact ⟨_, _, rfl, H44.takes [0, 2] (by decide)⟩
    · skip
      refine l_of (s_not (wn1 rfl rfl rfl rfl (decide_eq_false hb27)) rfl rfl ?_)
      refine l_of (s_not (wn1 rfl rfl rfl rfl (decide_eq_false hb27)) rfl rfl ?_)
      refine l_of (s_not (wn1 rfl rfl rfl rfl (decide_eq_false hb27)) rfl rfl ?_)
      refine l_of (s_val (v := .bool false) (wt0 rfl) rfl rfl (x_pick_f rfl rfl (decide_eq_false hb27) rfl) ?_)
      refine g_nil ?_
      refine g_then ?_
      refine g_cond_f rfl rfl ?_
      refine g_exit ?_
      refine g_then_exit ?_
      refine g_then_exit ?_
      refine g_in_hit ?_
      refine g_then ?_
      refine g_weak [(12, .slice po O.length co)] ⟨rfl, trivial⟩ ?_
      refine g_seq ?_
      refine g_region ?_
      refine l_of (s_val (v := .slice po O.length co) (wt0 rfl) rfl rfl (x_move rfl rfl) ?_)
      have hop := hP.len
      have hOl : O.length = (reg1 l slots).length + o9.length := by rw [hO, List.length_map, List.length_append]
      refine l_of (s_call (wt0 rfl) (x_call' rfl rfl cl35) (asc_r O po O.length co (by omega) _ (H26.takes [1] (by decide))) ?_)
      rintro _ wq45 ⟨rfl, H46⟩
      replace H46 : S wq45 [Rw 3 1 po O.length co (fl intL (sortI O)), Rw 30 10 pb B9.length cb (fl rvL B9), Old w no] := H26.absorbI (new := [Rw 3 1 po O.length co (fl intL (sortI O))]) [1] H46
      refine b_ret rfl rfl ?_
      refine l_of (s_val (v := .slice po O.length co) (wt0 rfl) rfl rfl (x_assign rfl rfl) ?_)
      refine g_nil ?_
      refine g_then ?_
      refine g_ret ?_
      refine g_then_ret ?_
      refine fin_ret [.tmp 10] [.slice po O.length co] rfl ⟨rfl, trivial⟩ ?_
      have hsr := (hP.srt (d := Rv.zero) (cO_wk round seed) (by omega)).2
      have hlt : let1 round slots seed l = reg1 l slots ++ o9 := by unfold let1; rw [take_is hsr hOs (end_nil (by omega))]
      have he : sortI O = (sortI ((let1 round slots seed l).map Rv.id)) := by rw [hlt, hO]
      have hel : (sortI ((let1 round slots seed l).map Rv.id)).length = O.length := by rw [← he, sortI_len]
      rw [hel, ← he]
      exact ⟨_, _, rfl, H46.takes [0, 2] (by decide)⟩
end Go.Proofs.YthfglkkjkpdkpaaGreatDoor
namespace Go.Proofs.YthfglkkjkpdkpaaGreatDoor
open Go.RowKit

/-! ## Places that are filled: the first ones of a list that have none yet -/
theorem fill_eq {slots : Int} : ∀ {opt lt : List Rv}, (opt.map Rv.id).Nodup → fillL slots lt opt = lt ++ (opt.filter fun x => !decide (x.id ∈ lt.map Rv.id)).take (slots.toNat - lt.length)
  | [], lt, _ => by simp [fillL]
  | x :: opt, lt, hn => by
    rw [List.map_cons, List.nodup_cons] at hn
    have e : fillL slots lt (x :: opt) = fillL slots (fillT slots lt x) opt := rfl
    rw [e, fill_eq hn.2]
    unfold fillT
    by_cases h1 : (lt.length : Int) < slots
    · by_cases h2 : x.id ∈ lt.map Rv.id
      · rw [if_neg (fun h => h.2 h2), List.filter_cons, if_neg (by rw [decide_eq_true h2]; decide)]
      · rw [if_pos ⟨h1, h2⟩, List.filter_cons, if_pos (by rw [decide_eq_false h2]; rfl)]
        have hf : (opt.filter fun y => !decide (y.id ∈ (lt ++ [x]).map Rv.id)) = opt.filter fun y => !decide (y.id ∈ lt.map Rv.id) := by
          refine List.filter_congr fun y hy => ?_
          have hne : y.id ≠ x.id := fun he => hn.1 (by rw [← he]; exact List.mem_map.2 ⟨y, hy, rfl⟩)
          congr 1
          rw [decide_eq_decide, List.map_append, List.mem_append]
          simp [hne]
        rw [hf]
        have hk : slots.toNat - lt.length = (slots.toNat - (lt ++ [x]).length) + 1 := by rw [List.length_append, List.length_singleton]; omega
        rw [hk, List.take_succ_cons, List.append_assoc]; rfl
    · rw [if_neg (fun h => h1 h.1)]
      have hk : slots.toNat - lt.length = 0 := by omega
      rw [hk, List.take_zero, List.take_zero]
theorem optL_nodup {l : List Rv} (hn : (l.map Rv.id).Nodup) (round : Int) (seed : ByteArray) : ((optL round seed l).map Rv.id).Nodup := by
  unfold optL
  refine ((srt_perm Rv.zero (cO round seed) _).map Rv.id).nodup_iff.2 ?_
  exact hn.sublist (List.filter_sublist.map Rv.id)
theorem way1_eq {l : List Rv} (hl : l.length ≤ 30) (hn : (l.map Rv.id).Nodup) (round slots : Int) (seed : ByteArray) : way1 round slots seed l = let1 round slots seed l := by
  unfold way1 let1 rest1
  rw [fill_eq (optL_nodup hn round seed)]
  unfold optL
  rw [srt_filter (d := Rv.zero) (l := l.filter qW) (cO_wk round seed) (by have := List.length_filter_le qW l; omega)]
end Go.Proofs.YthfglkkjkpdkpaaGreatDoor
namespace Go.Proofs.YthfglkkjkpdkpaaGreatDoor
open Go.RowKit

theorem ids3_is {l o t : List Rv} {slots : Int} (hs : sorted3 l = o ++ t) (ho : o.length ≤ slots.toNat) (he : o.length = slots.toNat ∨ t = []) : ids3 l slots = sortI (o.map Rv.id) := by
  unfold ids3
  rw [hs]
  rcases he with he | he
  · have e : min (o ++ t).length slots.toNat = o.length := by rw [List.length_append]; omega
    rw [e, List.take_left]
  · subst he
    rw [List.append_nil, List.take_of_length_le (by omega)]
set_option maxRecDepth 20000 in
set_option maxHeartbeats 4000000 in
theorem let3_r (round slots : Int) (seed : ByteArray) (hsl : 0 ≤ slots ∧ slots ≤ 100) (l : List Rv) (p : Option Addr) (n c : Nat) (hn2 : n ≤ 30) (hval : ∀ x ∈ l, validR x = true)  (w : World) (hr : Reads w p n c 10 (fl rvL l)) : Calls Tryz.prog 23 #[.int .i64 3, .int .i64 round, .int .i64 slots, .string seed, .slice p n c] w fun e w' => ∃ p' c', e = .returned (.slice p' (ids3 l slots).length c') ∧ S w' ([Rw 3 1 p' (ids3 l slots).length c' (fl intL (ids3 l slots))] ++ [Old w no]) := by
 have H0 := S.old w
 have hnl := hr.lenL rvE
 have hfl : (l.filter qI).length ≤ 30 := by have := List.length_filter_le qI l; omega
 refine enter 111 Tryz.func23 rfl rfl rfl ?_
 refine g_weak [(0, .int .i64 3), (1, .int .i64 round), (2, .int .i64 slots), (3, .string seed), (4, .slice p n c)] ⟨rfl, rfl, rfl, rfl, rfl, trivial⟩ ?_
 refine w_s ?_
 refine w_a ?_
 refine w_e ?_
 refine w_s ?_
 refine w_r2 ?_
 refine l_of (s_call (wt0 rfl) (x_call' rfl rfl cl16) (inter3_r l p n c (by omega) _ (H0.exReads (k := 0) rfl hr (fun _ _ _ h => h))) ?_)
 rintro _ wq1 ⟨pi, ci, rfl, H2⟩
 replace H2 : S wq1 [Rw 30 10 pi ((l.filter qI).length) ci (fl rvL (l.filter qI)), Old w no] := by have h := H0.absorb H2; exact h
 refine b_ret rfl rfl ?_
 refine w_a ?_
 refine w_e ?_
 refine w_s ?_
 refine w_a ?_
 refine w_e ?_
 refine g_seq ?_
 refine w_s ?_
 refine w_m ?_
 refine w_b ?_
 refine w_e ?_
 refine g_cond_f rfl (by decide) ?_
 refine g_skip ?_
 refine g_then ?_
 refine g_seq ?_
 refine g_block ?_
 refine g_loop (ι := Option Addr × Nat × List Rv × Option Addr × Nat × List Int × List Rv) (fun (pb, cb, B9, po, co, O, o9) => [(0, .int .i64 3), (1, .int .i64 round), (2, .int .i64 slots), (3, .string seed), (11, .slice pb B9.length cb), (12, .slice po O.length co)]) (fun (pb, cb, B9, po, co, O, o9) wx => (Picks c3 (l.filter qI) o9 B9) ∧ (O = o9.map Rv.id) ∧ (o9.length ≤ slots.toNat) ∧ S wx [Rw 30 10 pb B9.length cb (fl rvL B9), Rw 3 1 po O.length co (fl intL O), Old w no]) (fun (pb, cb, B9, po, co, O, o9) => B9.length) (pi, ci, (l.filter qI), none, 0, [], []) ⟨rfl, rfl, rfl, rfl, rfl, rfl, trivial⟩ ⟨Picks.nil, rfl, (Nat.zero_le _), (((H2.takes [0, 1] (by decide)).nilFl 3 1 intL).takes [1, 0, 2] (by decide))⟩ ?_
 rintro ⟨pb, cb, B9, po, co, O, o9⟩ wq3 ⟨hP, hO, hOs, H4⟩
 refine g_weak [(0, .int .i64 3), (1, .int .i64 round), (2, .int .i64 slots), (3, .string seed), (11, .slice pb B9.length cb), (12, .slice po O.length co)] ⟨rfl, rfl, rfl, rfl, rfl, rfl, trivial⟩ ?_
 refine g_seq ?_
 refine w_s ?_
 refine w_m ?_
 refine w_v (v := .int .i64 ((O.length : Int))) (x_lenl rfl rfl Tryz.underlying24) ?_
 refine w_m ?_
 refine w_b ?_
 refine w_m ?_
 by_cases hb5 : ((O.length : Int) : Int) < slots
 ·
  refine w_g (decide_eq_true hb5) xm ?_
  refine w_g (v := .int .i64 ((B9.length : Int))) (decide_eq_true hb5) (x_lenl rfl rfl Tryz.underlying22) ?_
  refine w_g (decide_eq_true hb5) (x_bin rfl rfl rfl b_gtr) ?_
  refine w_v (v := .bool (decide ((0 : Int) < (B9.length : Int)))) (x_pick_t rfl rfl (decide_eq_true hb5) rfl) ?_
  refine w_e ?_
  by_cases hb6 : (0 : Int) < (B9.length : Int)
  ·
   refine g_cond_t rfl (decide_eq_true hb6) ?_
   refine g_skip ?_
   refine g_then ?_
   refine g_block ?_
   refine w_s ?_
   refine w_r2 ?_
   have hDB : ∀ x ∈ B9, DV3 x := fun x hx => ⟨validR_D (hval x (List.mem_filter.1 (hP.sub.subset hx)).1), (List.mem_filter.1 (hP.sub.subset hx)).2⟩
   have hBl : B9.length ≤ 30 := Nat.le_trans hP.sub.length_le hfl
   have hop := hP.len
   have hOl : O.length = o9.length := by rw [hO, List.length_map]
   refine l_of (s_call (wt0 rfl) (x_call' rfl rfl cl20) (best3_r B9 pb B9.length cb (by omega) (by omega) hDB _ (H4.rwReads (k := 0) rfl)) ?_)
   rintro _ wq7 ⟨j9, x9, rfl, hB9, H8⟩
   replace H8 : S wq7 [Rw 30 10 pb B9.length cb (fl rvL B9), Rw 3 1 po O.length co (fl intL O), Old w no] := H4.absorb (new := []) H8
   have hjl9 := hB9.1
   refine b_ret rfl rfl ?_
   refine w_a ?_
   refine w_e ?_
   refine g_weak [(0, .int .i64 3), (1, .int .i64 round), (2, .int .i64 slots), (3, .string seed), (11, .slice pb B9.length cb), (12, .slice po O.length co), (17, .int .i64 ((j9 : Int)))] ⟨rfl, rfl, rfl, rfl, rfl, rfl, rfl, trivial⟩ ?_
   refine g_seq ?_
   refine w_s ?_
   refine w_m ?_
   refine w_b (v := .bool (!decide ((3 : Int) = 3))) (hb := b_neq) ?_
   refine w_m ?_
   refine w_n (nf rfl) ?_
   refine w_n (nf rfl) ?_
   refine w_n (nf rfl) ?_
   refine w_v (v := .bool false) (x_pick_f rfl rfl (nf rfl) rfl) ?_
   refine w_m ?_
   refine w_n rfl ?_
   refine w_n rfl ?_
   refine w_n rfl ?_
   refine w_n rfl ?_
   refine w_n rfl ?_
   refine w_v (v := .bool false) (x_pick_f rfl rfl rfl rfl) ?_
   refine w_e ?_
   refine g_weak [(0, .int .i64 3), (1, .int .i64 round), (2, .int .i64 slots), (3, .string seed), (11, .slice pb B9.length cb), (12, .slice po O.length co), (17, .int .i64 ((j9 : Int))), (93, .bool false)] ⟨rfl, rfl, rfl, rfl, rfl, rfl, rfl, rfl, trivial⟩ ?_
   refine g_cond_f rfl rfl ?_
   refine g_skip ?_
   refine g_then ?_
   refine w_s ?_
   refine w_r3 ?_
   refine w_v (v := .pointer ((pb).map fun q => q.add (j9 * 10))) (x_idxR j9 (H8.rwReads (k := 0) rfl) rfl rfl rfl Tryz.underlying22 sz30 (by omega)) ?_
   refine w_v (v := .pointer ((pb).map fun q => q.add (j9 * 10 + 0))) (ex_cast (x_fieldAddrG (m := j9 * 10) ((H8.rwReads (k := 0) rfl).some (by omega)) rfl rfl fo30_0) rfl) ?_
   refine w_v (v := .int .i64 (x9.id)) (x_loadF1 (i := 0) (j := j9) rvE (H8.rwReads (k := 0) rfl) hB9.2.1 rfl rfl Tryz.underlying3 rfl rfl) ?_
   refine l_of (s_buildSlice H8 (wt0 rfl) rfl rfl rfl (vs := [.int .i64 (x9.id)]) rfl Tryz.underlying24 sz3 ze3 rfl rfl (cells := #[.int .i64 (x9.id)]) (by kernel_rfl) ?_)
   intro g9 wq10 H11
   have hln16a := (H11.rwReads (k := 2) rfl).lenL intE
   have hln16 : (O ++ [x9.id]).length = O.length + 1 := by simp only [List.length_append, List.length_cons, List.length_nil] <;> omega
   refine l_of (s_appBn (m := 1) (l := O) (l2 := [x9.id]) intE H11 2 (j0 := 0) rfl rfl ⟨rfl, Nat.le_refl _⟩ (wt0 rfl) rfl rfl rfl rfl rfl rfl Tryz.underlying24 inf3 rfl (by decide) (by omega) ?_)
   intro p12 c13 wq14 H15
   refine w_a ?_
   refine w_e ?_
   refine g_region ?_
   refine w_r2 ?_
   refine l_of (s_call (wt0 rfl) (x_call' rfl rfl cl21) (without_r B9 pb B9.length cb (by omega) j9 (by omega) _ (H15.rwReads (k := 1) rfl)) ?_)
   rintro _ wq19 ⟨pw17, cw18, rfl, H20⟩
   replace H20 : S wq19 [Rw 30 10 pw17 ((B9.eraseIdx j9).length) cw18 (fl rvL (B9.eraseIdx j9)), Ob g9 (.cells #[.int .i64 (x9.id)] 3 (0, 0)), Rw 30 10 pb B9.length cb (fl rvL B9), Rw 3 1 p12 ((O ++ [x9.id]).length) c13 (fl intL (O ++ [x9.id])), Old w no] := by have h := H15.absorb H20; exact h
   refine b_ret rfl rfl ?_
   refine w_a ?_
   refine g_nil ?_
   refine g_in ?_
   refine g_then ?_
   refine g_round (i := (pb, cb, B9, po, co, O, o9)) (pw17, cw18, (B9.eraseIdx j9), p12, c13, (O ++ [x9.id]), (o9 ++ [x9])) ?_ ?_ ?_
   · exact ⟨rfl, rfl, rfl, rfl, rfl, rfl, trivial⟩
   · exact ⟨(Picks.step hP hB9), (by rw [hO, List.map_append]; rfl), (by rw [List.length_append, List.length_singleton]; omega), (H20.takes [0, 3, 4] (by decide))⟩
   · (try dsimp only); rw [List.length_eraseIdx_of_lt hB9.1]; have := hB9.1; omega
  ·
   refine g_cond_f rfl (decide_eq_false hb6) ?_
   refine g_exit ?_
   refine g_then_exit ?_
   refine g_then_exit ?_
   refine g_in_hit ?_
   refine g_then ?_
   refine g_weak [(12, .slice po O.length co)] ⟨rfl, trivial⟩ ?_
   refine w_s ?_
   refine w_m ?_
   have hop := hP.len
   have hOl : O.length = o9.length := by rw [hO, List.length_map]
   refine l_of (s_call (wt0 rfl) (x_call' rfl rfl cl35) (asc_r O po O.length co (by omega) _ (H4.takes [1] (by decide))) ?_)
   rintro _ wq21 ⟨rfl, H22⟩
   replace H22 : S wq21 [Rw 3 1 po O.length co (fl intL (sortI O)), Rw 30 10 pb B9.length cb (fl rvL B9), Old w no] := by have h := H4.absorbI [1] H22; exact h
   refine b_ret rfl rfl ?_
   refine w_a ?_
   refine w_e ?_
   refine g_ret ?_
   refine fin_ret [.tmp 10] [.slice po O.length co] rfl ⟨rfl, trivial⟩ ?_
   have hsr := (hP.srt (d := Rv.zero) c3_wk2 (by omega)).2
   have he : (ids3 l slots) = sortI O := by rw [ids3_is hsr hOs (end_nil (by omega)), hO]
   have hel : (ids3 l slots).length = O.length := by rw [he, sortI_len]
   rw [hel, he]
   exact ⟨_, _, rfl, H22.takes [0, 2] (by decide)⟩
 ·
  refine w_n (decide_eq_false hb5) ?_
  refine w_n (decide_eq_false hb5) ?_
  refine w_n (decide_eq_false hb5) ?_
  refine w_v (v := .bool false) (x_pick_f rfl rfl (decide_eq_false hb5) rfl) ?_
  refine w_e ?_
  refine g_cond_f rfl rfl ?_
  refine g_exit ?_
  refine g_then_exit ?_
  refine g_then_exit ?_
  refine g_in_hit ?_
  refine g_then ?_
  refine g_weak [(12, .slice po O.length co)] ⟨rfl, trivial⟩ ?_
  refine w_s ?_
  refine w_m ?_
  have hop := hP.len
  have hOl : O.length = o9.length := by rw [hO, List.length_map]
  refine l_of (s_call (wt0 rfl) (x_call' rfl rfl cl35) (asc_r O po O.length co (by omega) _ (H4.takes [1] (by decide))) ?_)
  rintro _ wq23 ⟨rfl, H24⟩
  replace H24 : S wq23 [Rw 3 1 po O.length co (fl intL (sortI O)), Rw 30 10 pb B9.length cb (fl rvL B9), Old w no] := by have h := H4.absorbI [1] H24; exact h
  refine b_ret rfl rfl ?_
  refine w_a ?_
  refine w_e ?_
  refine g_ret ?_
  refine fin_ret [.tmp 10] [.slice po O.length co] rfl ⟨rfl, trivial⟩ ?_
  have hsr := (hP.srt (d := Rv.zero) c3_wk2 (by omega)).2
  have he : (ids3 l slots) = sortI O := by rw [ids3_is hsr hOs (end_nil (by omega)), hO]
  have hel : (ids3 l slots).length = O.length := by rw [he, sortI_len]
  rw [hel, he]
  exact ⟨_, _, rfl, H24.takes [0, 2] (by decide)⟩
end Go.Proofs.YthfglkkjkpdkpaaGreatDoor
