import Derived.Test.YtlajgickimgigaaGreatVI
import Derived.Test.YtlajgickimgigaaGreatVJ
import Derived.Test.YtlajgickimgigaaGreatFh
set_option linter.unusedSimpArgs false
set_option linter.unusedVariables false
namespace Go.Proofs.YtlajgickimgigaaGreat
open Go.RowKit

theorem cl45 : callable Tryz.prog 45 = true := by kernel_rfl
/-- What learn knows. -/
def learnM (n : Nat) (M : PM) (a b : Nat) (s : ByteArray) : PM := if b < countN n a then upM M (a, b) s else M
set_option maxRecDepth 20000 in
set_option maxHeartbeats 4000000 in
set_option maxRecDepth 20000 in
set_option maxHeartbeats 4000000 in
theorem clone_m (mg : Nat) (M : PM) (w : World) (HS : S w [Mp placeV Value.string placeOk mg (M)]) : Calls Tryz.prog 45 #[.map (some mg)] w fun e w' => ∃ g2, e = .returned (.map (some g2)) ∧ S w' ([Mp placeV Value.string placeOk g2 (M), Mp placeV Value.string placeOk mg (M)] ++ [Old w (fps [Mp placeV Value.string placeOk mg (M)])]) := by
  have H00 := HS.beginI
  have H0 : S w ([Mp placeV Value.string placeOk mg (M), Old w (fps [Mp placeV Value.string placeOk mg (M)])]) := H00
  refine enter 9 Tryz.func45 rfl rfl rfl ?_
  refine g_weak [(0, .map (some mg))] ⟨rfl, trivial⟩ ?_
  refine g_seq ?_
  refine g_region ?_
  refine l_of (s_val (v := .map none) (wt0 rfl) rfl rfl (x_assign rfl rfl) ?_)
  refine g_nil ?_
  refine g_then ?_
  refine g_seq ?_
  refine g_seq ?_
  refine g_region ?_
  refine l_of (s_val (v := .map (some mg)) (wt0 rfl) rfl rfl (x_move rfl rfl) ?_)
  refine l_of (s_val (v := .bool false) (wt0 rfl) rfl rfl (x_bin rfl rfl rfl (b_eqlMap Tryz.underlying68)) ?_)
  refine g_nil ?_
  refine g_then ?_
  refine g_cond_f rfl rfl ?_
  refine g_skip ?_
  refine g_then ?_
  refine g_seq ?_
  refine g_region ?_
  refine l_of (s_val (v := .map (some mg)) (wt0 rfl) rfl rfl (x_move rfl rfl) ?_)
  refine l_of (s_val (v := .iface 68 (.map (some mg))) (wt0 rfl) rfl rfl (x_makeInterface rfl rfl Tryz.underlying68 rfl) ?_)
  refine l_of (s_mapsClone H0 0 (wt0 rfl) rfl rfl rfl rfl rfl rfl Tryz.func75 (by kernel_rfl) (by kernel_rfl) (by kernel_rfl) (by kernel_rfl) ?_)
  intro mg1 wq2 H3
  replace H3 : S wq2 [Mp placeV Value.string placeOk mg1 (M), Mp placeV Value.string placeOk mg (M), Old w (fps [Mp placeV Value.string placeOk mg (M)])] := H3
  refine l_of (s_val (v := .map (some mg1)) (wt0 rfl) rfl rfl (x_assert1 rfl rfl Tryz.underlying68 rfl) ?_)
  refine l_of (s_val (v := .map (some mg1)) (wt0 rfl) rfl rfl (x_assign rfl rfl) ?_)
  refine g_nil ?_
  refine g_then ?_
  refine g_ret ?_
  refine fin_ret [.tmp 2] [.map (some mg1)] rfl ⟨rfl, trivial⟩ ?_
  exact ⟨mg1, rfl, H3.takes [0, 1, 2] (by decide)⟩
set_option maxRecDepth 20000 in
set_option maxHeartbeats 4000000 in
set_option maxRecDepth 20000 in
set_option maxHeartbeats 4000000 in
theorem copy_s (tg mg n h : Nat) (root : ByteArray) (M : PM) (w : World) (HS : S w [Ob tg (.cells #[.int .i64 ((n : Int)), .int .i64 ((h : Int)), .string root, .map (some mg)] 75 (0, 0)), Mp placeV Value.string placeOk mg (M)]) : Calls Tryz.prog 14 #[.pointer (some ⟨tg, 0, none⟩)] w fun e w' => ∃ t2, e = .returned (.pointer (some ⟨t2, 0, none⟩)) ∧ S w' ([Ob tg (.cells #[.int .i64 ((n : Int)), .int .i64 ((h : Int)), .string root, .map (some mg)] 75 (0, 0)), Mp placeV Value.string placeOk mg (M)] ++ [Old w (fps [Ob tg (.cells #[.int .i64 ((n : Int)), .int .i64 ((h : Int)), .string root, .map (some mg)] 75 (0, 0)), Mp placeV Value.string placeOk mg (M)])]) := by
  have H00 := HS.beginI
  have H0 : S w ([Ob tg (.cells #[.int .i64 ((n : Int)), .int .i64 ((h : Int)), .string root, .map (some mg)] 75 (0, 0)), Mp placeV Value.string placeOk mg (M), Old w (fps [Ob tg (.cells #[.int .i64 ((n : Int)), .int .i64 ((h : Int)), .string root, .map (some mg)] 75 (0, 0)), Mp placeV Value.string placeOk mg (M)])]) := H00
  refine enter 20 Tryz.func14 rfl rfl rfl ?_
  refine g_weak [(0, .pointer (some ⟨tg, 0, none⟩))] ⟨rfl, trivial⟩ ?_
  refine g_seq ?_
  refine g_region ?_
  refine l_of (s_val (v := .pointer none) (wt0 rfl) rfl rfl (x_assign rfl rfl) ?_)
  refine g_nil ?_
  refine g_then ?_
  refine g_seq ?_
  refine g_seq ?_
  refine g_region ?_
  refine l_of (s_val (v := .pointer (some ⟨tg, 0, none⟩)) (wt0 rfl) rfl rfl (x_move rfl rfl) ?_)
  refine l_of (s_val (v := .bool false) (wt0 rfl) rfl rfl (x_bin rfl rfl rfl (b_eqN (r := false) Tryz.underlying29 rfl)) ?_)
  refine g_nil ?_
  refine g_then ?_
  refine g_cond_f rfl rfl ?_
  refine g_skip ?_
  refine g_then ?_
  refine g_seq ?_
  refine g_any [] (fun wx => S wx [Ob tg (.cells #[.int .i64 ((n : Int)), .int .i64 ((h : Int)), .string root, .map (some mg)] 75 (0, 0))]) [] (by kernel_rfl) H0 (fun wq1 H2 => ?_)
  refine a_take (v := .pointer (some ⟨tg, 0, none⟩)) 0 rfl (wt0 rfl) rfl rfl rfl (by kernel_rfl) (by kernel_rfl) (by kernel_rfl) (by kernel_rfl) (H2.mask [true, false, false]) (fun wx H => x_move rfl rfl) ?_
  refine a_take (v := .pointer (some ⟨tg, 0, none⟩)) 1 rfl (wt0 rfl) rfl rfl rfl (by kernel_rfl) (by kernel_rfl) (by kernel_rfl) (by kernel_rfl) (H2.mask [true, false, false]) (fun wx H => x_nilCheck rfl rfl) ?_
  refine a_take (v := .pointer (some ⟨tg, 0, none⟩)) 2 rfl (wt0 rfl) rfl rfl rfl (by kernel_rfl) (by kernel_rfl) (by kernel_rfl) (by kernel_rfl) (H2.mask [true, false, false]) (fun wx H => x_fieldAddr rfl rfl fo75_0 rfl) ?_
  refine a_take (v := .agg #[.int .i64 ((n : Int)), .int .i64 ((h : Int))]) 3 rfl (wt0 rfl) rfl rfl rfl (by kernel_rfl) (by kernel_rfl) (by kernel_rfl) (by kernel_rfl) (H2.mask [true, false, false]) (fun wx H => x_loadA H 0 rfl rfl Tryz.underlying65 rfl sz65 rfl rfl rfl) ?_
  refine a_take (v := .pointer (some ⟨tg, 0, none⟩)) 4 rfl (wt0 rfl) rfl rfl rfl (by kernel_rfl) (by kernel_rfl) (by kernel_rfl) (by kernel_rfl) (H2.mask [true, false, false]) (fun wx H => x_move rfl rfl) ?_
  refine a_take (v := .pointer (some ⟨tg, 0, none⟩)) 5 rfl (wt0 rfl) rfl rfl rfl (by kernel_rfl) (by kernel_rfl) (by kernel_rfl) (by kernel_rfl) (H2.mask [true, false, false]) (fun wx H => x_nilCheck rfl rfl) ?_
  refine a_take (v := .pointer (some ⟨tg, 2, none⟩)) 6 rfl (wt0 rfl) rfl rfl rfl (by kernel_rfl) (by kernel_rfl) (by kernel_rfl) (by kernel_rfl) (H2.mask [true, false, false]) (fun wx H => x_fieldAddr rfl rfl fo75_1 rfl) ?_
  refine a_take (v := .string root) 7 rfl (wt0 rfl) rfl rfl rfl (by kernel_rfl) (by kernel_rfl) (by kernel_rfl) (by kernel_rfl) (H2.mask [true, false, false]) (fun wx H => x_load1 H 0 rfl rfl Tryz.underlying9 rfl rfl rfl) ?_
  refine a_take (v := .pointer (some ⟨tg, 0, none⟩)) 8 rfl (wt0 rfl) rfl rfl rfl (by kernel_rfl) (by kernel_rfl) (by kernel_rfl) (by kernel_rfl) (H2.mask [true, false, false]) (fun wx H => x_move rfl rfl) ?_
  refine a_take (v := .pointer (some ⟨tg, 0, none⟩)) 9 rfl (wt0 rfl) rfl rfl rfl (by kernel_rfl) (by kernel_rfl) (by kernel_rfl) (by kernel_rfl) (H2.mask [true, false, false]) (fun wx H => x_nilCheck rfl rfl) ?_
  refine a_take (v := .pointer (some ⟨tg, 3, none⟩)) 10 rfl (wt0 rfl) rfl rfl rfl (by kernel_rfl) (by kernel_rfl) (by kernel_rfl) (by kernel_rfl) (H2.mask [true, false, false]) (fun wx H => x_fieldAddr rfl rfl fo75_2 rfl) ?_
  refine a_take (v := .map (some mg)) 11 rfl (wt0 rfl) rfl rfl rfl (by kernel_rfl) (by kernel_rfl) (by kernel_rfl) (by kernel_rfl) (H2.mask [true, false, false]) (fun wx H => x_load1 H 0 rfl rfl Tryz.underlying68 rfl rfl rfl) ?_
  refine a_one (i := 12) (by kernel_rfl) rfl ?_
  refine s_call (wt0 rfl) (x_call' rfl rfl cl45) (clone_m mg M _ (H2.takes [1] (by decide))) ?_
  rintro _ wq4 ⟨mg3, rfl, H5⟩
  replace H5 : S wq4 [Mp placeV Value.string placeOk mg3 (M), Mp placeV Value.string placeOk mg (M), Ob tg (.cells #[.int .i64 ((n : Int)), .int .i64 ((h : Int)), .string root, .map (some mg)] 75 (0, 0)), Old w (fps [Ob tg (.cells #[.int .i64 ((n : Int)), .int .i64 ((h : Int)), .string root, .map (some mg)] 75 (0, 0)), Mp placeV Value.string placeOk mg (M)])] := H2.absorbI (new := [Mp placeV Value.string placeOk mg3 (M), Mp placeV Value.string placeOk mg (M)]) [1] H5
  refine b_ret rfl rfl ?_
  refine a_k (H5.mask [false, false, true, false]) ?_
  refine a_take (v := .agg #[.int .i64 ((n : Int)), .int .i64 ((h : Int)), .string root, .map (some mg3)]) 13 rfl (wt0 rfl) rfl rfl rfl (by kernel_rfl) (by kernel_rfl) (by kernel_rfl) (by kernel_rfl) (H5.mask [false, false, true, false]) (fun wx H => x_build (vs := [.agg #[.int .i64 ((n : Int)), .int .i64 ((h : Int))], .string root, .map (some mg3)]) rfl rfl (cells := #[.int .i64 ((n : Int)), .int .i64 ((h : Int)), .string root, .map (some mg3)]) (by kernel_rfl)) ?_
  refine a_one (i := 14) (by kernel_rfl) rfl ?_
  refine s_box H5 (wt0 rfl) rfl rfl rfl rfl ?_
  intro g6 wq7 H8
  refine a_k (H8.mask [false, false, false, true, false]) ?_
  refine a_take (v := .pointer (some ⟨g6, 0, none⟩)) 15 rfl (wt0 rfl) rfl rfl rfl (by kernel_rfl) (by kernel_rfl) (by kernel_rfl) (by kernel_rfl) (H8.mask [false, false, false, true, false]) (fun wx H => x_assign rfl rfl) ?_
  refine a_done (by kernel_rfl) ?_
  refine g_then ?_
  refine g_weak [(2, .pointer (some ⟨g6, 0, none⟩))] ⟨rfl, trivial⟩ ?_
  refine g_ret ?_
  refine fin_ret [.tmp 2] [.pointer (some ⟨g6, 0, none⟩)] rfl ⟨rfl, trivial⟩ ?_
  exact ⟨g6, rfl, H8.takes [3, 2, 4] (by decide)⟩
set_option maxRecDepth 20000 in
set_option maxHeartbeats 4000000 in
set_option maxRecDepth 20000 in
set_option maxHeartbeats 4000000 in
theorem learn_r (tg mg n h : Nat) (M : PM) (a b : Nat) (s : ByteArray) (h1 : 1 ≤ n) (hn : n ≤ 1099511627776) (ha : a ≤ 60) (hb : b ≤ 1099511627776) (w : World) (HS : S w [Ob tg (.cells #[.int .i64 ((n : Int)), .int .i64 ((h : Int)), .map (some mg)] 50 (0, 0)), Mp placeV Value.string placeOk mg (M)]) : Calls Tryz.prog 51 #[.pointer (some ⟨tg, 0, none⟩), .int .i64 ((a : Int)), .int .i64 ((b : Int)), .string s] w fun e w' => e = .returned (.tuple #[]) ∧ S w' ([Ob tg (.cells #[.int .i64 ((n : Int)), .int .i64 ((h : Int)), .map (some mg)] 50 (0, 0)), Mp placeV Value.string placeOk mg (learnM n M a b s)] ++ [Old w (fps [Ob tg (.cells #[.int .i64 ((n : Int)), .int .i64 ((h : Int)), .map (some mg)] 50 (0, 0)), Mp placeV Value.string placeOk mg (M)])]) := by
  have H00 := HS.beginI
  have H0 : S w ([Ob tg (.cells #[.int .i64 ((n : Int)), .int .i64 ((h : Int)), .map (some mg)] 50 (0, 0)), Mp placeV Value.string placeOk mg (M), Old w (fps [Ob tg (.cells #[.int .i64 ((n : Int)), .int .i64 ((h : Int)), .map (some mg)] 50 (0, 0)), Mp placeV Value.string placeOk mg (M)])]) := H00
  refine enter 24 Tryz.func51 rfl rfl rfl ?_
  refine g_weak [(0, .pointer (some ⟨tg, 0, none⟩)), (1, .int .i64 ((a : Int))), (2, .int .i64 ((b : Int))), (3, .string s)] ⟨rfl, rfl, rfl, rfl, trivial⟩ ?_
  refine g_seq ?_
  refine g_region ?_
  refine l_of (s_val (v := .int .i64 ((b : Int))) (wt0 rfl) rfl rfl (x_move rfl rfl) ?_)
  refine l_of (s_val (v := .pointer (some ⟨tg, 0, none⟩)) (wt0 rfl) rfl rfl (x_move rfl rfl) ?_)
  refine l_of (s_val (v := .pointer (some ⟨tg, 0, none⟩)) (wt0 rfl) rfl rfl (x_nilCheck rfl rfl) ?_)
  refine l_of (s_val (v := .pointer (some ⟨tg, 0, none⟩)) (wt0 rfl) rfl rfl (x_fieldAddr rfl rfl fo50_0 rfl) ?_)
  refine l_of (s_val (v := .int .i64 ((n : Int))) (wt0 rfl) rfl rfl (x_load1 H0 0 rfl rfl Tryz.underlying3 rfl rfl rfl) ?_)
  refine l_of (s_val (v := .int .i64 ((a : Int))) (wt0 rfl) rfl rfl (x_move rfl rfl) ?_)
  refine l_of (s_call (wt0 rfl) (x_call' rfl rfl cl25) (count_r n a h1 hn ha _) ?_)
  rintro _ wq1 ⟨rfl, H2⟩
  replace H2 : S wq1 [Ob tg (.cells #[.int .i64 ((n : Int)), .int .i64 ((h : Int)), .map (some mg)] 50 (0, 0)), Mp placeV Value.string placeOk mg (M), Old w (fps [Ob tg (.cells #[.int .i64 ((n : Int)), .int .i64 ((h : Int)), .map (some mg)] 50 (0, 0)), Mp placeV Value.string placeOk mg (M)])] := H0.absorb (new := []) H2
  refine b_ret rfl rfl ?_
  refine l_of (s_val (v := .bool (decide (((b : Int) : Int) < (countN n a : Int)))) (wt0 rfl) rfl rfl (x_bin rfl rfl rfl b_lss) ?_)
  refine g_nil ?_
  refine g_then ?_
  by_cases hb3 : ((b : Int) : Int) < (countN n a : Int)
  · skip
    refine g_cond_t rfl (decide_eq_true hb3) ?_
    refine g_region ?_
    refine l_of (s_val (v := .pointer (some ⟨tg, 0, none⟩)) (wt0 rfl) rfl rfl (x_move rfl rfl) ?_)
    refine l_of (s_val (v := .pointer (some ⟨tg, 0, none⟩)) (wt0 rfl) rfl rfl (x_nilCheck rfl rfl) ?_)
    refine l_of (s_val (v := .pointer (some ⟨tg, 2, none⟩)) (wt0 rfl) rfl rfl (x_fieldAddr rfl rfl fo50_2 rfl) ?_)
    refine l_of (s_val (v := .map (some mg)) (wt0 rfl) rfl rfl (x_load1 H2 0 rfl rfl Tryz.underlying48 rfl rfl rfl) ?_)
    refine l_of (s_val (v := .int .i64 ((a : Int))) (wt0 rfl) rfl rfl (x_move rfl rfl) ?_)
    refine l_of (s_val (v := .int .i64 ((b : Int))) (wt0 rfl) rfl rfl (x_move rfl rfl) ?_)
    refine l_of (s_val (v := .agg #[.int .i64 ((a : Int)), .int .i64 ((b : Int))]) (wt0 rfl) rfl rfl (x_build (vs := [.int .i64 ((a : Int)), .int .i64 ((b : Int))]) rfl rfl (cells := #[.int .i64 ((a : Int)), .int .i64 ((b : Int))]) (by kernel_rfl)) ?_)
    refine l_of (s_val (v := .string s) (wt0 rfl) rfl rfl (x_move rfl rfl) ?_)
    refine l_of (s_mapUpdate (x := (a, b)) (a := s) placeR H2 1 (wt0 rfl) rfl rfl rfl rfl rfl rfl ⟨by (show _ ≤ 1099511627776); omega, by (show _ ≤ 1099511627776); omega⟩ ?_)
    intro wq4 H5
    replace H5 : S wq4 [Ob tg (.cells #[.int .i64 ((n : Int)), .int .i64 ((h : Int)), .map (some mg)] 50 (0, 0)), Mp placeV Value.string placeOk mg (upM M (a, b) s), Old w (fps [Ob tg (.cells #[.int .i64 ((n : Int)), .int .i64 ((h : Int)), .map (some mg)] 50 (0, 0)), Mp placeV Value.string placeOk mg (M)])] := H5
    refine g_nil ?_
    refine fin_end [] [] rfl trivial ?_
    have hl : learnM n M a b s = upM M (a, b) s := by unfold learnM; rw [if_pos (by omega)]
    exact ⟨rfl, by rw [hl]; exact H5.takes [0, 1, 2] (by decide)⟩
  · skip
    refine g_cond_f rfl (decide_eq_false hb3) ?_
    refine g_skip ?_
    refine fin_end [] [] rfl trivial ?_
    have hl : learnM n M a b s = M := by unfold learnM; rw [if_neg (by omega)]
    exact ⟨rfl, by rw [hl]; exact H2.takes [0, 1, 2] (by decide)⟩
set_option maxRecDepth 20000 in
set_option maxHeartbeats 4000000 in
set_option maxRecDepth 20000 in
set_option maxHeartbeats 4000000 in
theorem missing_r (tg mg n h : Nat) (M : PM) (v : Int) (h1 : 1 ≤ n) (hn : n ≤ 4096) (hh : h ≤ 12) (w : World) (HS : S w [Ob tg (.cells #[.int .i64 ((n : Int)), .int .i64 ((h : Int)), .map (some mg)] 50 (0, 0)), Mp placeV Value.string placeOk mg (M)]) : Calls Tryz.prog 23 #[.pointer (some ⟨tg, 0, none⟩), .int .i64 v] w fun e w' => ∃ p c, e = .returned (.tuple #[.slice p (missT n h M v).1.length c, .int .i64 (missT n h M v).2]) ∧ S w' ([Rw 3 1 p (missT n h M v).1.length c (intV (missT n h M v).1), Ob tg (.cells #[.int .i64 ((n : Int)), .int .i64 ((h : Int)), .map (some mg)] 50 (0, 0)), Mp placeV Value.string placeOk mg (M)] ++ [Old w (fps [Ob tg (.cells #[.int .i64 ((n : Int)), .int .i64 ((h : Int)), .map (some mg)] 50 (0, 0)), Mp placeV Value.string placeOk mg (M)])]) := by
  have H00 := HS.beginI
  have H0 : S w ([Ob tg (.cells #[.int .i64 ((n : Int)), .int .i64 ((h : Int)), .map (some mg)] 50 (0, 0)), Mp placeV Value.string placeOk mg (M), Old w (fps [Ob tg (.cells #[.int .i64 ((n : Int)), .int .i64 ((h : Int)), .map (some mg)] 50 (0, 0)), Mp placeV Value.string placeOk mg (M)])]) := H00
  refine enter 48 Tryz.func23 rfl rfl rfl ?_
  refine g_weak [(0, .pointer (some ⟨tg, 0, none⟩)), (1, .int .i64 v)] ⟨rfl, rfl, trivial⟩ ?_
  refine g_seq ?_
  refine g_region ?_
  refine l_of (s_val (v := .slice none 0 0) (wt0 rfl) rfl rfl (x_assign rfl rfl) ?_)
  refine l_of (s_val (v := .int .i64 0) (wt0 rfl) rfl rfl (x_assign rfl rfl) ?_)
  refine g_nil ?_
  refine g_then ?_
  refine g_seq ?_
  refine g_seq ?_
  refine g_region ?_
  refine l_of (s_val (v := .int .i64 v) (wt0 rfl) rfl rfl (x_move rfl rfl) ?_)
  refine l_of (s_val (v := .bool (decide ((v : Int) < 0))) (wt0 rfl) rfl rfl (x_bin rfl rfl rfl b_lss) ?_)
  refine l_of (s_val (v := .bool (decide ((v : Int) < 0))) (wt0 rfl) rfl rfl (x_move rfl rfl) ?_)
  by_cases hb1 : (v : Int) < 0
  · skip
    refine l_of (s_not (wn1 rfl rfl rfl rfl (decide_eq_true hb1)) rfl rfl ?_)
    refine l_of (s_not (wn1 rfl rfl rfl rfl (decide_eq_true hb1)) rfl rfl ?_)
    refine l_of (s_not (wn1 rfl rfl rfl rfl (decide_eq_true hb1)) rfl rfl ?_)
    refine l_of (s_not (wn1 rfl rfl rfl rfl (decide_eq_true hb1)) rfl rfl ?_)
    refine l_of (s_not (wn1 rfl rfl rfl rfl (decide_eq_true hb1)) rfl rfl ?_)
    refine l_of (s_not (wn1 rfl rfl rfl rfl (decide_eq_true hb1)) rfl rfl ?_)
    refine l_of (s_val (v := .bool true) (wt0 rfl) rfl rfl (x_pick_t rfl rfl (decide_eq_true hb1) rfl) ?_)
    refine g_nil ?_
    refine g_then ?_
    refine g_cond_t rfl rfl ?_
    refine g_seq ?_
    refine g_region ?_
    refine l_of (s_val (v := .slice none 0 0) (wt0 rfl) rfl rfl (x_assign rfl rfl) ?_)
    refine l_of (s_val (v := .int .i64 7) (wt0 rfl) rfl rfl (x_assign rfl rfl) ?_)
    refine g_nil ?_
    refine g_then ?_
    refine g_weak [(4, .slice none 0 0), (5, .int .i64 7)] ⟨rfl, rfl, trivial⟩ ?_
    refine g_ret ?_
    refine g_then_ret ?_
    refine fin_ret [.tmp 4, .tmp 5] [.slice none 0 0, .int .i64 7] rfl ⟨rfl, rfl, trivial⟩ ?_
    have hd : missT n h M v = ([], 7) := by unfold missT; rw [if_neg (by omega)]
    rw [hd]
    exact ⟨none, 0, rfl, (H0.takes [0, 1, 2] (by decide)).nilRw 3 1⟩
  · skip
    refine l_of (s_val (v := .int .i64 v) (wt1 rfl rfl rfl rfl (decide_eq_false hb1)) rfl rfl (x_move rfl rfl) ?_)
    refine l_of (s_val (v := .pointer (some ⟨tg, 0, none⟩)) (wt1 rfl rfl rfl rfl (decide_eq_false hb1)) rfl rfl (x_move rfl rfl) ?_)
    refine l_of (s_val (v := .pointer (some ⟨tg, 0, none⟩)) (wt1 rfl rfl rfl rfl (decide_eq_false hb1)) rfl rfl (x_nilCheck rfl rfl) ?_)
    refine l_of (s_val (v := .pointer (some ⟨tg, 1, none⟩)) (wt1 rfl rfl rfl rfl (decide_eq_false hb1)) rfl rfl (x_fieldAddr rfl rfl fo50_1 rfl) ?_)
    refine l_of (s_val (v := .int .i64 ((h : Int))) (wt1 rfl rfl rfl rfl (decide_eq_false hb1)) rfl rfl (x_load1 H0 0 rfl rfl Tryz.underlying3 rfl rfl rfl) ?_)
    refine l_of (s_val (v := .bool (decide (((h : Int) : Int) < v))) (wt1 rfl rfl rfl rfl (decide_eq_false hb1)) rfl rfl (x_bin rfl rfl rfl b_gtr) ?_)
    refine l_of (s_val (v := .bool (decide (((h : Int) : Int) < v))) (wt0 rfl) rfl rfl (x_pick_f rfl rfl (decide_eq_false hb1) rfl) ?_)
    refine g_nil ?_
    refine g_then ?_
    by_cases hb2 : ((h : Int) : Int) < v
    · skip
      refine g_cond_t rfl (decide_eq_true hb2) ?_
      refine g_seq ?_
      refine g_region ?_
      refine l_of (s_val (v := .slice none 0 0) (wt0 rfl) rfl rfl (x_assign rfl rfl) ?_)
      refine l_of (s_val (v := .int .i64 7) (wt0 rfl) rfl rfl (x_assign rfl rfl) ?_)
      refine g_nil ?_
      refine g_then ?_
      refine g_weak [(4, .slice none 0 0), (5, .int .i64 7)] ⟨rfl, rfl, trivial⟩ ?_
      refine g_ret ?_
      refine g_then_ret ?_
      refine fin_ret [.tmp 4, .tmp 5] [.slice none 0 0, .int .i64 7] rfl ⟨rfl, rfl, trivial⟩ ?_
      have hd : missT n h M v = ([], 7) := by unfold missT; rw [if_neg (by omega)]
      rw [hd]
      exact ⟨none, 0, rfl, (H0.takes [0, 1, 2] (by decide)).nilRw 3 1⟩
    · skip
      obtain ⟨V0, rfl⟩ : ∃ V0 : Nat, v = (V0 : Int) := ⟨v.toNat, by omega⟩
      have hcp := countN_pos n V0
      have hcn : countN n V0 ≤ n := by unfold countN; have := Nat.div_le_self (n - 1) (2 ^ V0); omega
      refine g_cond_f rfl (decide_eq_false hb2) ?_
      refine g_skip ?_
      refine g_then ?_
      refine g_weak [(0, .pointer (some ⟨tg, 0, none⟩)), (1, .int .i64 ((V0 : Int)))] ⟨rfl, rfl, trivial⟩ ?_
      refine g_seq ?_
      refine g_region ?_
      refine l_of (s_val (v := .slice none 0 0) (wt0 rfl) rfl rfl (x_assign rfl rfl) ?_)
      refine g_nil ?_
      refine g_then ?_
      refine g_seq ?_
      refine g_seq ?_
      refine g_region ?_
      refine l_of (s_val (v := .pointer (some ⟨tg, 0, none⟩)) (wt0 rfl) rfl rfl (x_move rfl rfl) ?_)
      refine l_of (s_val (v := .pointer (some ⟨tg, 0, none⟩)) (wt0 rfl) rfl rfl (x_nilCheck rfl rfl) ?_)
      refine l_of (s_val (v := .pointer (some ⟨tg, 0, none⟩)) (wt0 rfl) rfl rfl (x_fieldAddr rfl rfl fo50_0 rfl) ?_)
      refine l_of (s_val (v := .int .i64 ((n : Int))) (wt0 rfl) rfl rfl (x_load1 H0 0 rfl rfl Tryz.underlying3 rfl rfl rfl) ?_)
      refine l_of (s_val (v := .int .i64 ((V0 : Int))) (wt0 rfl) rfl rfl (x_move rfl rfl) ?_)
      refine l_of (s_call (wt0 rfl) (x_call' rfl rfl cl25) (count_r n V0 h1 (by omega) (by omega) _) ?_)
      rintro _ wq3 ⟨rfl, H4⟩
      replace H4 : S wq3 [Ob tg (.cells #[.int .i64 ((n : Int)), .int .i64 ((h : Int)), .map (some mg)] 50 (0, 0)), Mp placeV Value.string placeOk mg (M), Old w (fps [Ob tg (.cells #[.int .i64 ((n : Int)), .int .i64 ((h : Int)), .map (some mg)] 50 (0, 0)), Mp placeV Value.string placeOk mg (M)])] := H0.absorb (new := []) H4
      refine b_ret rfl rfl ?_
      refine l_of (s_val (v := .int .i64 0) (wt0 rfl) rfl rfl (x_move rfl rfl) ?_)
      refine g_nil ?_
      refine g_then ?_
      refine g_block ?_
      refine g_loop (ι := Nat × Option Addr × Nat) (fun (k, q, d) => [(0, .pointer (some ⟨tg, 0, none⟩)), (1, .int .i64 ((V0 : Int))), (6, .slice q (missTo M V0 k).length d), (25, .int .i64 ((countN n V0 : Int))), (26, .int .i64 ((k : Int)))]) (fun (k, q, d) wx => (k ≤ countN n V0) ∧ S wx [Rw 3 1 q (missTo M V0 k).length d (intV (missTo M V0 k)), Ob tg (.cells #[.int .i64 ((n : Int)), .int .i64 ((h : Int)), .map (some mg)] 50 (0, 0)), Mp placeV Value.string placeOk mg (M), Old w (fps [Ob tg (.cells #[.int .i64 ((n : Int)), .int .i64 ((h : Int)), .map (some mg)] 50 (0, 0)), Mp placeV Value.string placeOk mg (M)])]) (fun (k, q, d) => countN n V0 - k) (0, none, 0) ⟨rfl, rfl, rfl, rfl, rfl, trivial⟩ ⟨Nat.zero_le _, (H4.nilRw 3 1)⟩ ?_
      rintro ⟨k, q, d⟩ wq5 ⟨hk, H6⟩
      replace H6 : S wq5 [Rw 3 1 q (missTo M V0 k).length d (intV (missTo M V0 k)), Ob tg (.cells #[.int .i64 ((n : Int)), .int .i64 ((h : Int)), .map (some mg)] 50 (0, 0)), Mp placeV Value.string placeOk mg (M), Old w (fps [Ob tg (.cells #[.int .i64 ((n : Int)), .int .i64 ((h : Int)), .map (some mg)] 50 (0, 0)), Mp placeV Value.string placeOk mg (M)])] := H6
      refine g_weak [(0, .pointer (some ⟨tg, 0, none⟩)), (1, .int .i64 ((V0 : Int))), (6, .slice q (missTo M V0 k).length d), (25, .int .i64 ((countN n V0 : Int))), (26, .int .i64 ((k : Int)))] ⟨rfl, rfl, rfl, rfl, rfl, trivial⟩ ?_
      have hml := miss_len M V0 k
      refine g_seq ?_
      refine g_region ?_
      refine l_of (s_val (v := .bool (decide (((k : Int) : Int) < (countN n V0 : Int)))) (wt0 rfl) rfl rfl (x_bin rfl rfl rfl b_lss) ?_)
      refine g_nil ?_
      refine g_then ?_
      refine g_seq ?_
      by_cases hb7 : ((k : Int) : Int) < (countN n V0 : Int)
      · skip
        refine g_cond_t rfl (decide_eq_true hb7) ?_
        refine g_skip ?_
        refine g_then ?_
        refine g_seq ?_
        refine g_block ?_
        refine g_seq ?_
        refine g_region ?_
        refine l_of (s_val (v := .int .i64 ((k : Int))) (wt0 rfl) rfl rfl (x_move rfl rfl) ?_)
        refine l_of (s_val (v := .int .i64 ((k : Int))) (wt0 rfl) rfl rfl (x_assign rfl rfl) ?_)
        refine g_nil ?_
        refine g_then ?_
        refine g_seq ?_
        refine g_region ?_
        refine l_of (s_val (v := .pointer (some ⟨tg, 0, none⟩)) (wt0 rfl) rfl rfl (x_move rfl rfl) ?_)
        refine l_of (s_val (v := .pointer (some ⟨tg, 0, none⟩)) (wt0 rfl) rfl rfl (x_nilCheck rfl rfl) ?_)
        refine l_of (s_val (v := .pointer (some ⟨tg, 2, none⟩)) (wt0 rfl) rfl rfl (x_fieldAddr rfl rfl fo50_2 rfl) ?_)
        refine l_of (s_val (v := .map (some mg)) (wt0 rfl) rfl rfl (x_load1 H6 1 rfl rfl Tryz.underlying48 rfl rfl rfl) ?_)
        refine l_of (s_val (v := .int .i64 ((V0 : Int))) (wt0 rfl) rfl rfl (x_move rfl rfl) ?_)
        refine l_of (s_val (v := .int .i64 ((k : Int))) (wt0 rfl) rfl rfl (x_move rfl rfl) ?_)
        refine l_of (s_val (v := .agg #[.int .i64 ((V0 : Int)), .int .i64 ((k : Int))]) (wt0 rfl) rfl rfl (x_build (vs := [.int .i64 ((V0 : Int)), .int .i64 ((k : Int))]) rfl rfl (cells := #[.int .i64 ((V0 : Int)), .int .i64 ((k : Int))]) (by kernel_rfl)) ?_)
        refine l_of (s_val (v := .tuple #[.string (((M (V0, k)).getD ⟨#[]⟩)), .bool ((M (V0, k)).isSome)]) (wt0 rfl) rfl rfl (ex_cast (x_lookup (x := (V0, k)) placeR H6 2 rfl rfl rfl rfl ⟨by (show _ ≤ 1099511627776); omega, by (show _ ≤ 1099511627776); omega⟩ ze9) (by rw [look_S])) ?_)
        refine l_of (s_val (v := .tuple #[.string (((M (V0, k)).getD ⟨#[]⟩)), .bool ((M (V0, k)).isSome)]) (wt0 rfl) rfl rfl (x_move rfl rfl) ?_)
        refine l_of (s_val (v := .string (((M (V0, k)).getD ⟨#[]⟩))) (wt0 rfl) rfl rfl (x_extract rfl rfl rfl) ?_)
        refine l_of (s_val (v := .bool ((M (V0, k)).isSome)) (wt0 rfl) rfl rfl (x_extract rfl rfl rfl) ?_)
        refine l_of (s_val (v := .string (((M (V0, k)).getD ⟨#[]⟩))) (wt0 rfl) rfl rfl (x_assign rfl rfl) ?_)
        refine l_of (s_val (v := .bool ((M (V0, k)).isSome)) (wt0 rfl) rfl rfl (x_assign rfl rfl) ?_)
        refine g_nil ?_
        refine g_then ?_
        refine g_weak [(0, .pointer (some ⟨tg, 0, none⟩)), (1, .int .i64 ((V0 : Int))), (6, .slice q (missTo M V0 k).length d), (7, .int .i64 ((k : Int))), (9, .bool ((M (V0, k)).isSome)), (25, .int .i64 ((countN n V0 : Int))), (26, .int .i64 ((k : Int)))] ⟨rfl, rfl, rfl, rfl, rfl, rfl, rfl, trivial⟩ ?_
        refine g_seq ?_
        refine g_region ?_
        refine l_of (s_val (v := .bool ((M (V0, k)).isSome)) (wt0 rfl) rfl rfl (x_move rfl rfl) ?_)
        refine l_of (s_val (v := .bool (!((M (V0, k)).isSome))) (wt0 rfl) rfl rfl (x_not (b := (M (V0, k)).isSome) rfl rfl) ?_)
        refine g_nil ?_
        refine g_then ?_
        rcases Bool.eq_false_or_eq_true ((M (V0, k)).isSome) with hb8 | hb8
        · skip
          refine g_cond_f rfl (neg_of hb8) ?_
          refine g_skip ?_
          refine g_in ?_
          refine g_then ?_
          refine g_region ?_
          refine l_of (s_val (v := .int .i64 ((k : Int) + 1)) (wt0 rfl) rfl rfl (x_bin rfl rfl rfl (b_add (w64 (by omega)))) ?_)
          refine l_of (s_val (v := .int .i64 ((k : Int) + 1)) (wt0 rfl) rfl rfl (x_move rfl rfl) ?_)
          refine g_nil ?_
          refine g_then ?_
          have hms : (missTo M V0 (k + 1)) = (missTo M V0 k) := by rw [miss_next, if_pos hb8]
          have H9 : S wq5 [Rw 3 1 q (missTo M V0 (k + 1)).length d (intV (missTo M V0 (k + 1))), Ob tg (.cells #[.int .i64 ((n : Int)), .int .i64 ((h : Int)), .map (some mg)] 50 (0, 0)), Mp placeV Value.string placeOk mg (M), Old w (fps [Ob tg (.cells #[.int .i64 ((n : Int)), .int .i64 ((h : Int)), .map (some mg)] 50 (0, 0)), Mp placeV Value.string placeOk mg (M)])] := by rw [hms]; exact H6.takes [0, 1, 2, 3] (by decide)
          rw [← hms]
          refine g_round (i := (k, q, d)) (k + 1, q, d) ?_ ?_ ?_
          · exact ⟨rfl, rfl, rfl, rfl, rfl, trivial⟩
          · exact ⟨by omega, H9⟩
          · (try dsimp only); omega
        · skip
          refine g_cond_t rfl (neg_of hb8) ?_
          refine g_region ?_
          refine l_of (s_val (v := .slice q (missTo M V0 k).length d) (wt0 rfl) rfl rfl (x_move rfl rfl) ?_)
          refine l_of (s_val (v := .int .i64 ((k : Int))) (wt0 rfl) rfl rfl (x_move rfl rfl) ?_)
          refine l_of (s_buildSlice H6 (wt0 rfl) rfl rfl rfl (vs := [.int .i64 ((k : Int))]) rfl Tryz.underlying51 sz3 ze3 rfl rfl (cells := #[.int .i64 ((k : Int))]) (by kernel_rfl) ?_)
          intro g10 wq11 H12
          refine l_of (s_appendR (n := (missTo M V0 k).length) (m := 1) (sc := d) (xs := (intV (missTo M V0 k))) (news := [.int .i64 ((k : Int))]) (p := q) (ad := ⟨g10, 0, none⟩) H12 1 (wt0 rfl) rfl rfl rfl rfl rfl rfl Tryz.underlying51 inf3 rfl (by decide) (by decide) rfl (by decide) (news_ob H12 (j0 := 0) rfl) rfl (by omega) ?_)
          intro p13 c14 wq15 (H16 : S wq15 [Ob g10 (.cells #[.int .i64 ((k : Int))] 3 (0, 0)), Rw 3 1 p13 ((missTo M V0 k).length + 1) c14 ((intV (missTo M V0 k)) ++ [.int .i64 ((k : Int))]), Ob tg (.cells #[.int .i64 ((n : Int)), .int .i64 ((h : Int)), .map (some mg)] 50 (0, 0)), Mp placeV Value.string placeOk mg (M), Old w (fps [Ob tg (.cells #[.int .i64 ((n : Int)), .int .i64 ((h : Int)), .map (some mg)] 50 (0, 0)), Mp placeV Value.string placeOk mg (M)])])
          refine l_of (s_val (v := .slice p13 ((missTo M V0 k).length + 1) c14) (wt0 rfl) rfl rfl (x_assign rfl rfl) ?_)
          refine g_nil ?_
          refine g_in ?_
          refine g_then ?_
          refine g_region ?_
          refine l_of (s_val (v := .int .i64 ((k : Int) + 1)) (wt0 rfl) rfl rfl (x_bin rfl rfl rfl (b_add (w64 (by omega)))) ?_)
          refine l_of (s_val (v := .int .i64 ((k : Int) + 1)) (wt0 rfl) rfl rfl (x_move rfl rfl) ?_)
          refine g_nil ?_
          refine g_then ?_
          have hms : (missTo M V0 (k + 1)) = (missTo M V0 k) ++ [k] := by rw [miss_next, if_neg (by rw [hb8]; exact Bool.false_ne_true)]
          have H17 : S wq15 [Rw 3 1 p13 (missTo M V0 (k + 1)).length c14 (intV (missTo M V0 (k + 1))), Ob tg (.cells #[.int .i64 ((n : Int)), .int .i64 ((h : Int)), .map (some mg)] 50 (0, 0)), Mp placeV Value.string placeOk mg (M), Old w (fps [Ob tg (.cells #[.int .i64 ((n : Int)), .int .i64 ((h : Int)), .map (some mg)] 50 (0, 0)), Mp placeV Value.string placeOk mg (M)])] := by rw [hms, List.length_append, intV_snoc]; exact H16.takes [1, 2, 3, 4] (by decide)
          rw [show (missTo M V0 k).length + 1 = (missTo M V0 (k + 1)).length from by rw [hms, List.length_append]; rfl]
          refine g_round (i := (k, q, d)) (k + 1, p13, c14) ?_ ?_ ?_
          · exact ⟨rfl, rfl, rfl, rfl, rfl, trivial⟩
          · exact ⟨by omega, H17⟩
          · (try dsimp only); omega
      · skip
        have hkk : k = countN n V0 := by omega
        subst hkk
        refine g_cond_f rfl (decide_eq_false hb7) ?_
        refine g_exit ?_
        refine g_then_exit ?_
        refine g_then_exit ?_
        refine g_in_hit ?_
        refine g_then ?_
        refine g_seq ?_
        refine g_region ?_
        refine l_of (s_val (v := .slice q (missTo M V0 (countN n V0)).length d) (wt0 rfl) rfl rfl (x_move rfl rfl) ?_)
        refine l_of (s_val (v := .slice q (missTo M V0 (countN n V0)).length d) (wt0 rfl) rfl rfl (x_assign rfl rfl) ?_)
        refine l_of (s_val (v := .int .i64 0) (wt0 rfl) rfl rfl (x_assign rfl rfl) ?_)
        refine g_nil ?_
        refine g_then ?_
        refine g_ret ?_
        refine fin_ret [.tmp 4, .tmp 5] [.slice q (missTo M V0 (countN n V0)).length d, .int .i64 0] rfl ⟨rfl, rfl, trivial⟩ ?_
        have hd : missT n h M (V0 : Int) = (missTo M V0 (countN n V0), 0) := by unfold missT; rw [if_pos (by omega), Int.toNat_natCast]
        rw [hd]
        exact ⟨_, _, rfl, H6.takes [0, 1, 2, 3] (by decide)⟩
end Go.Proofs.YtlajgickimgigaaGreat
