import Derived.Test.YtlajgickimgigaaGreatVC
set_option linter.unusedSimpArgs false
set_option linter.unusedVariables false
namespace Go.Proofs.YtlajgickimgigaaGreat
open Go.RowKit

theorem cl10 : callable Tryz.prog 10 = true := by kernel_rfl
theorem root_size {l : List ByteArray} (hc : checkE l = 0) : (rootS l).1.size = 32 := by
  obtain ⟨h1, h2, h3⟩ := check_spec hc
  rw [root_node hc]
  unfold nodeT
  rw [level_row (by omega) (Nat.le_refl _)]
  have hl := lvl_count (l := l) h1 (tallN l.length)
  have := countN_pos l.length (tallN l.length)
  unfold rowP
  rw [List.getD_eq_getElem?_getD, List.getElem?_append_left (by omega), ← List.getD_eq_getElem?_getD]
  exact digs_get (lvlS_digs h3 _) (by omega)
theorem root_err (l : List ByteArray) : (rootS l).2 = checkE l := by
  unfold rootS
  split
  · rename_i h; exact h.symm
  · rfl
set_option maxRecDepth 20000 in
set_option maxHeartbeats 4000000 in
set_option maxRecDepth 20000 in
set_option maxHeartbeats 4000000 in
theorem of_r (l : List ByteArray) (p : Option Addr) (c : Nat) (hm : l.length ≤ 1099511627776) (w : World) (hr : Reads w p l.length c 1 (stV l)) : Calls Tryz.prog 8 #[.slice p l.length c] w fun e w' => (checkE l = 0 ∧ ∃ tg mg, e = .returned (.tuple #[.pointer (some ⟨tg, 0, none⟩), .int .i64 0]) ∧ S w' ([Ob tg (.cells #[.int .i64 ((l.length : Int)), .int .i64 (((tallN l.length) : Int)), .map (some mg)] 50 (0, 0)), Mp placeV Value.string placeOk mg (ofR l (newR l.length (tallN l.length) (rootS l).1) ((tallN l.length) + 1))] ++ [Old w no])) ∨ (¬ checkE l = 0 ∧ e = .returned (.tuple #[.pointer none, .int .i64 (checkE l)]) ∧ S w' [Old w no]) := by
  have H0 := S.old w
  refine enter 53 Tryz.func8 rfl rfl rfl ?_
  refine g_weak [(0, .slice p l.length c)] ⟨rfl, trivial⟩ ?_
  refine g_seq ?_
  refine g_region ?_
  refine l_of (s_val (v := .pointer none) (wt0 rfl) rfl rfl (x_assign rfl rfl) ?_)
  refine l_of (s_val (v := .int .i64 0) (wt0 rfl) rfl rfl (x_assign rfl rfl) ?_)
  refine g_nil ?_
  refine g_then ?_
  refine g_seq ?_
  refine g_region ?_
  refine l_of (s_val (v := .slice p l.length c) (wt0 rfl) rfl rfl (x_move rfl rfl) ?_)
  refine l_of (s_call (wt0 rfl) (x_call' rfl rfl cl34) (root_r l p l.length c rfl hm _ (H0.oldReads (k := 0) rfl hr)) ?_)
  rintro _ wq1 ⟨rfl, H2⟩
  replace H2 : S wq1 [Old w no] := H0.absorb (new := []) H2
  refine b_ret rfl rfl ?_
  refine l_of (s_val (v := .tuple #[.string ((rootS l).1), .int .i64 ((rootS l).2)]) (wt0 rfl) rfl rfl (x_move rfl rfl) ?_)
  refine l_of (s_val (v := .string ((rootS l).1)) (wt0 rfl) rfl rfl (x_extract rfl rfl rfl) ?_)
  refine l_of (s_val (v := .int .i64 ((rootS l).2)) (wt0 rfl) rfl rfl (x_extract rfl rfl rfl) ?_)
  refine l_of (s_val (v := .string ((rootS l).1)) (wt0 rfl) rfl rfl (x_assign rfl rfl) ?_)
  refine l_of (s_val (v := .int .i64 ((rootS l).2)) (wt0 rfl) rfl rfl (x_assign rfl rfl) ?_)
  refine g_nil ?_
  refine g_then ?_
  refine g_seq ?_
  refine g_seq ?_
  refine g_region ?_
  refine l_of (s_val (v := .int .i64 ((rootS l).2)) (wt0 rfl) rfl rfl (x_move rfl rfl) ?_)
  refine l_of (s_val (v := .bool (!decide (((rootS l).2 : Int) = 0))) (wt0 rfl) rfl rfl (x_bin rfl rfl rfl b_neq) ?_)
  refine g_nil ?_
  refine g_then ?_
  by_cases hb3 : ((rootS l).2 : Int) = 0
  · skip
    have hce : checkE l = 0 := by rw [← root_err]; omega
    obtain ⟨hc1, hc2, hc3⟩ := check_spec hce
    have ht12 := tall_le12 hc2
    refine g_cond_f rfl (nf hb3) ?_
    refine g_skip ?_
    refine g_then ?_
    refine g_seq ?_
    refine g_region ?_
    refine l_of (s_val (v := .string ((rootS l).1)) (wt0 rfl) rfl rfl (x_move rfl rfl) ?_)
    refine l_of (s_val (v := .slice p l.length c) (wt0 rfl) rfl rfl (x_move rfl rfl) ?_)
    refine l_of (s_val (v := .int .i64 ((l.length : Int))) (wt0 rfl) rfl rfl (x_lenl rfl rfl Tryz.underlying22) ?_)
    refine l_of (s_call (wt0 rfl) (x_call' rfl rfl cl10) (new_r (rootS l).1 l.length (root_size hce) (by omega) (by omega) _) ?_)
    rintro _ wq6 ⟨tg4, mg5, rfl, H7⟩
    replace H7 : S wq6 [Ob tg4 (.cells #[.int .i64 ((l.length : Int)), .int .i64 (((tallN l.length) : Int)), .map (some mg5)] 50 (0, 0)), Mp placeV Value.string placeOk mg5 (newR l.length (tallN l.length) (rootS l).1), Old w no] := H2.absorb (new := [Ob tg4 (.cells #[.int .i64 ((l.length : Int)), .int .i64 (((tallN l.length) : Int)), .map (some mg5)] 50 (0, 0)), Mp placeV Value.string placeOk mg5 (newR l.length (tallN l.length) (rootS l).1)]) H7
    refine b_ret rfl rfl ?_
    refine l_of (s_val (v := .tuple #[.pointer (some ⟨tg4, 0, none⟩), .int .i64 0]) (wt0 rfl) rfl rfl (x_move rfl rfl) ?_)
    refine l_of (s_val (v := .pointer (some ⟨tg4, 0, none⟩)) (wt0 rfl) rfl rfl (x_extract rfl rfl rfl) ?_)
    refine l_of (s_val (v := .int .i64 0) (wt0 rfl) rfl rfl (x_extract rfl rfl rfl) ?_)
    refine l_of (s_val (v := .pointer (some ⟨tg4, 0, none⟩)) (wt0 rfl) rfl rfl (x_assign rfl rfl) ?_)
    refine l_of (s_val (v := .int .i64 0) (wt0 rfl) rfl rfl (x_assign rfl rfl) ?_)
    refine g_nil ?_
    refine g_then ?_
    refine g_weak [(0, .slice p l.length c), (6, .pointer (some ⟨tg4, 0, none⟩))] ⟨rfl, rfl, trivial⟩ ?_
    refine g_seq ?_
    refine g_seq ?_
    refine g_region ?_
    refine l_of (s_val (v := .slice p l.length c) (wt0 rfl) rfl rfl (x_move rfl rfl) ?_)
    refine l_of (s_call (wt0 rfl) (x_call' rfl rfl cl35) (full_r l p l.length c rfl (by omega) (by omega) hc3 _ (H7.oldReads (k := 2) rfl hr)) ?_)
    rintro _ wq12 ⟨P8, C9, rs10, rfl, hrs11, H13⟩
    replace H13 : S wq12 [Rw 22 1 P8 rs10.length C9 (rosV rs10), RowsI 9 1 encT rs10, Ob tg4 (.cells #[.int .i64 ((l.length : Int)), .int .i64 (((tallN l.length) : Int)), .map (some mg5)] 50 (0, 0)), Mp placeV Value.string placeOk mg5 (newR l.length (tallN l.length) (rootS l).1), Old w no] := H7.absorb (new := [Rw 22 1 P8 rs10.length C9 (rosV rs10), RowsI 9 1 encT rs10]) H13
    refine b_ret rfl rfl ?_
    refine l_of (s_val (v := .int .i64 ((rs10.length : Int))) (wt0 rfl) rfl rfl (x_lenl rfl rfl Tryz.underlying76) ?_)
    refine l_of (s_val (v := .int .i64 0) (wt0 rfl) rfl rfl (x_move rfl rfl) ?_)
    refine g_nil ?_
    refine g_then ?_
    refine g_block ?_
    refine g_loop (ι := Nat) (fun a => [(6, .pointer (some ⟨tg4, 0, none⟩)), (28, .slice P8 rs10.length C9), (29, .int .i64 ((rs10.length : Int))), (30, .int .i64 ((a : Int)))]) (fun a wx => (a ≤ (tallN l.length) + 1) ∧ S wx [Mp placeV Value.string placeOk mg5 (ofR l (newR l.length (tallN l.length) (rootS l).1) a), Ob tg4 (.cells #[.int .i64 ((l.length : Int)), .int .i64 (((tallN l.length) : Int)), .map (some mg5)] 50 (0, 0)), Rw 22 1 P8 rs10.length C9 (rosV rs10), RowsI 9 1 encT rs10, Old w no]) (fun a => (tallN l.length) + 1 - a) (0) ⟨rfl, rfl, rfl, rfl, trivial⟩ ⟨Nat.zero_le _, (H13.takes [3, 2, 0, 1, 4] (by decide))⟩ ?_
    rintro a wq14 ⟨ha, H15⟩
    replace H15 : S wq14 [Mp placeV Value.string placeOk mg5 (ofR l (newR l.length (tallN l.length) (rootS l).1) a), Ob tg4 (.cells #[.int .i64 ((l.length : Int)), .int .i64 (((tallN l.length) : Int)), .map (some mg5)] 50 (0, 0)), Rw 22 1 P8 rs10.length C9 (rosV rs10), RowsI 9 1 encT rs10, Old w no] := H15
    refine g_weak [(6, .pointer (some ⟨tg4, 0, none⟩)), (28, .slice P8 rs10.length C9), (29, .int .i64 ((rs10.length : Int))), (30, .int .i64 ((a : Int)))] ⟨rfl, rfl, rfl, rfl, trivial⟩ ?_
    have hrsl := full_len hrs11
    refine g_seq ?_
    refine g_region ?_
    refine l_of (s_val (v := .bool (decide (((a : Int) : Int) < (rs10.length : Int)))) (wt0 rfl) rfl rfl (x_bin rfl rfl rfl b_lss) ?_)
    refine g_nil ?_
    refine g_then ?_
    refine g_seq ?_
    by_cases hb16 : ((a : Int) : Int) < (rs10.length : Int)
    · skip
      have hfr := full_row (l := l) (k := a) (by omega) (by omega)
      have hpw : 2 ^ ((tallN l.length) - a) ≤ 4096 := Nat.pow_le_pow_right (by omega) (show (tallN l.length) - a ≤ 12 by omega)
      refine g_cond_t rfl (decide_eq_true hb16) ?_
      refine g_skip ?_
      refine g_then ?_
      refine g_seq ?_
      refine g_block ?_
      refine g_seq ?_
      refine g_region ?_
      refine l_of (s_val (v := .int .i64 ((a : Int))) (wt0 rfl) rfl rfl (x_move rfl rfl) ?_)
      refine l_of (s_val (v := .pointer ((P8).map fun q => q.add (a * 1))) (wt0 rfl) rfl rfl (x_idxR a (H15.rwReads (k := 2) rfl) rfl rfl rfl Tryz.underlying76 sz22 (by omega)) ?_)
      obtain ⟨rp17, rc18, hj19⟩ := full_at hrs11 (j := a) (by omega)
      have hrl20 := full_row (l := l) (k := a) (by omega) (by omega)
      have hrl20p := Nat.two_pow_pos (tallN l.length - a)
      refine l_of (s_val (v := .slice rp17 (upN a (rowT l.length 0 l)).length rc18) (wt0 rfl) rfl rfl (x_loadR1 a (H15.rwReads (k := 2) rfl) (by omega) rfl rfl Tryz.underlying22 rfl (rosV_at hj19)) ?_)
      refine l_of (s_val (v := .int .i64 ((a : Int))) (wt0 rfl) rfl rfl (x_assign rfl rfl) ?_)
      refine l_of (s_val (v := .slice rp17 (upN a (rowT l.length 0 l)).length rc18) (wt0 rfl) rfl rfl (x_assign rfl rfl) ?_)
      refine g_nil ?_
      refine g_then ?_
      refine g_seq ?_
      refine g_region ?_
      refine l_of (s_val (v := .slice rp17 (upN a (rowT l.length 0 l)).length rc18) (wt0 rfl) rfl rfl (x_move rfl rfl) ?_)
      refine l_of (s_val (v := .int .i64 (((upN a (rowT l.length 0 l)).length : Int))) (wt0 rfl) rfl rfl (x_lenl rfl rfl Tryz.underlying22) ?_)
      refine l_of (s_val (v := .int .i64 0) (wt0 rfl) rfl rfl (x_move rfl rfl) ?_)
      refine g_nil ?_
      refine g_then ?_
      refine g_block ?_
      refine g_loop (ι := Nat) (fun j => [(6, .pointer (some ⟨tg4, 0, none⟩)), (8, .int .i64 ((a : Int))), (28, .slice P8 rs10.length C9), (29, .int .i64 ((rs10.length : Int))), (30, .int .i64 ((a : Int))), (35, .slice rp17 (upN a (rowT l.length 0 l)).length rc18), (36, .int .i64 (((upN a (rowT l.length 0 l)).length : Int))), (37, .int .i64 ((j : Int)))]) (fun j wx => (j ≤ (upN a (rowT l.length 0 l)).length) ∧ S wx [Mp placeV Value.string placeOk mg5 (rowZ (ofR l (newR l.length (tallN l.length) (rootS l).1) a) a (upN a (rowT l.length 0 l)) j), Ob tg4 (.cells #[.int .i64 ((l.length : Int)), .int .i64 (((tallN l.length) : Int)), .map (some mg5)] 50 (0, 0)), Rw 22 1 P8 rs10.length C9 (rosV rs10), RowsI 9 1 encT rs10, Old w no]) (fun j => (upN a (rowT l.length 0 l)).length - j) (0) ⟨rfl, rfl, rfl, rfl, rfl, rfl, rfl, rfl, trivial⟩ ⟨Nat.zero_le _, (H15.takes [0, 1, 2, 3, 4] (by decide))⟩ ?_
      rintro j wq21 ⟨hj, H22⟩
      replace H22 : S wq21 [Mp placeV Value.string placeOk mg5 (rowZ (ofR l (newR l.length (tallN l.length) (rootS l).1) a) a (upN a (rowT l.length 0 l)) j), Ob tg4 (.cells #[.int .i64 ((l.length : Int)), .int .i64 (((tallN l.length) : Int)), .map (some mg5)] 50 (0, 0)), Rw 22 1 P8 rs10.length C9 (rosV rs10), RowsI 9 1 encT rs10, Old w no] := H22
      refine g_weak [(6, .pointer (some ⟨tg4, 0, none⟩)), (8, .int .i64 ((a : Int))), (28, .slice P8 rs10.length C9), (29, .int .i64 ((rs10.length : Int))), (30, .int .i64 ((a : Int))), (35, .slice rp17 (upN a (rowT l.length 0 l)).length rc18), (36, .int .i64 (((upN a (rowT l.length 0 l)).length : Int))), (37, .int .i64 ((j : Int)))] ⟨rfl, rfl, rfl, rfl, rfl, rfl, rfl, rfl, trivial⟩ ?_
      refine g_seq ?_
      refine g_region ?_
      refine l_of (s_val (v := .bool (decide (((j : Int) : Int) < ((upN a (rowT l.length 0 l)).length : Int)))) (wt0 rfl) rfl rfl (x_bin rfl rfl rfl b_lss) ?_)
      refine g_nil ?_
      refine g_then ?_
      refine g_seq ?_
      by_cases hb23 : ((j : Int) : Int) < ((upN a (rowT l.length 0 l)).length : Int)
      · skip
        refine g_cond_t rfl (decide_eq_true hb23) ?_
        refine g_skip ?_
        refine g_then ?_
        refine g_seq ?_
        refine g_block ?_
        refine g_seq ?_
        refine g_region ?_
        refine l_of (s_val (v := .int .i64 ((j : Int))) (wt0 rfl) rfl rfl (x_move rfl rfl) ?_)
        refine l_of (s_val (v := .pointer ((rp17).map fun q => q.add (j * 1))) (wt0 rfl) rfl rfl (x_idxR j (row_read (H22.at (k := 3) rfl) hj19 rfl) rfl rfl rfl Tryz.underlying22 sz9 (by omega)) ?_)
        refine l_of (s_val (v := .string (((upN a (rowT l.length 0 l)).getD (j) ⟨#[]⟩))) (wt0 rfl) rfl rfl (x_loadR1 j (row_read (H22.at (k := 3) rfl) hj19 rfl) (by omega) rfl rfl Tryz.underlying9 rfl (stV_at (by omega))) ?_)
        refine l_of (s_val (v := .int .i64 ((j : Int))) (wt0 rfl) rfl rfl (x_assign rfl rfl) ?_)
        refine l_of (s_val (v := .string (((upN a (rowT l.length 0 l)).getD (j) ⟨#[]⟩))) (wt0 rfl) rfl rfl (x_assign rfl rfl) ?_)
        refine g_nil ?_
        refine g_then ?_
        refine g_region ?_
        refine l_of (s_val (v := .pointer (some ⟨tg4, 0, none⟩)) (wt0 rfl) rfl rfl (x_move rfl rfl) ?_)
        refine l_of (s_val (v := .pointer (some ⟨tg4, 0, none⟩)) (wt0 rfl) rfl rfl (x_nilCheck rfl rfl) ?_)
        refine l_of (s_val (v := .pointer (some ⟨tg4, 2, none⟩)) (wt0 rfl) rfl rfl (x_fieldAddr rfl rfl fo50_2 rfl) ?_)
        refine l_of (s_val (v := .map (some mg5)) (wt0 rfl) rfl rfl (x_load1 H22 1 rfl rfl Tryz.underlying48 rfl rfl rfl) ?_)
        refine l_of (s_val (v := .int .i64 ((a : Int))) (wt0 rfl) rfl rfl (x_move rfl rfl) ?_)
        refine l_of (s_val (v := .int .i64 ((j : Int))) (wt0 rfl) rfl rfl (x_move rfl rfl) ?_)
        refine l_of (s_val (v := .agg #[.int .i64 ((a : Int)), .int .i64 ((j : Int))]) (wt0 rfl) rfl rfl (x_build (vs := [.int .i64 ((a : Int)), .int .i64 ((j : Int))]) rfl rfl (cells := #[.int .i64 ((a : Int)), .int .i64 ((j : Int))]) (by kernel_rfl)) ?_)
        refine l_of (s_val (v := .string (((upN a (rowT l.length 0 l)).getD (j) ⟨#[]⟩))) (wt0 rfl) rfl rfl (x_move rfl rfl) ?_)
        refine l_of (s_mapUpdate (x := (a, j)) (a := ((upN a (rowT l.length 0 l)).getD (j) ⟨#[]⟩)) placeR H22 0 (wt0 rfl) rfl rfl rfl rfl rfl rfl ⟨by (show _ ≤ 1099511627776); omega, by (show _ ≤ 1099511627776); omega⟩ ?_)
        intro wq24 H25
        replace H25 : S wq24 [Mp placeV Value.string placeOk mg5 (rowZ (ofR l (newR l.length (tallN l.length) (rootS l).1) a) a (upN a (rowT l.length 0 l)) (j + 1)), Ob tg4 (.cells #[.int .i64 ((l.length : Int)), .int .i64 (((tallN l.length) : Int)), .map (some mg5)] 50 (0, 0)), Rw 22 1 P8 rs10.length C9 (rosV rs10), RowsI 9 1 encT rs10, Old w no] := H25
        refine g_nil ?_
        refine g_in ?_
        refine g_then ?_
        refine g_weak [(6, .pointer (some ⟨tg4, 0, none⟩)), (8, .int .i64 ((a : Int))), (28, .slice P8 rs10.length C9), (29, .int .i64 ((rs10.length : Int))), (30, .int .i64 ((a : Int))), (35, .slice rp17 (upN a (rowT l.length 0 l)).length rc18), (36, .int .i64 (((upN a (rowT l.length 0 l)).length : Int))), (37, .int .i64 ((j : Int)))] ⟨rfl, rfl, rfl, rfl, rfl, rfl, rfl, rfl, trivial⟩ ?_
        refine g_region ?_
        refine l_of (s_val (v := .int .i64 ((j : Int) + 1)) (wt0 rfl) rfl rfl (x_bin rfl rfl rfl (b_add (w64 (by omega)))) ?_)
        refine l_of (s_val (v := .int .i64 ((j : Int) + 1)) (wt0 rfl) rfl rfl (x_move rfl rfl) ?_)
        refine g_nil ?_
        refine g_then ?_
        refine g_round (i := (j)) (j + 1) ?_ ?_ ?_
        · exact ⟨rfl, rfl, rfl, rfl, rfl, rfl, rfl, rfl, trivial⟩
        · exact ⟨by omega, (H25.takes [0, 1, 2, 3, 4] (by decide))⟩
        · (try dsimp only); omega
      · skip
        have hjj : j = (upN a (rowT l.length 0 l)).length := by omega
        subst hjj
        refine g_cond_f rfl (decide_eq_false hb23) ?_
        refine g_exit ?_
        refine g_then_exit ?_
        refine g_then_exit ?_
        refine g_in_hit ?_
        refine g_in ?_
        refine g_then ?_
        refine g_region ?_
        refine l_of (s_val (v := .int .i64 (((a + 1 : Nat) : Int))) (wt0 rfl) rfl rfl (x_bin rfl rfl rfl (b_addN (a := a) (b := 1) (by omega))) ?_)
        refine l_of (s_val (v := .int .i64 (((a + 1 : Nat) : Int))) (wt0 rfl) rfl rfl (x_move rfl rfl) ?_)
        refine g_nil ?_
        refine g_then ?_
        refine g_round (i := (a)) (a + 1) ?_ ?_ ?_
        · exact ⟨rfl, rfl, rfl, rfl, trivial⟩
        · exact ⟨by omega, (H22.takes [0, 1, 2, 3, 4] (by decide))⟩
        · (try dsimp only); omega
    · skip
      have haa : a = (tallN l.length) + 1 := by omega
      subst haa
      refine g_cond_f rfl (decide_eq_false hb16) ?_
      refine g_exit ?_
      refine g_then_exit ?_
      refine g_then_exit ?_
      refine g_in_hit ?_
      refine g_then ?_
      refine g_seq ?_
      refine g_region ?_
      refine l_of (s_val (v := .pointer (some ⟨tg4, 0, none⟩)) (wt0 rfl) rfl rfl (x_move rfl rfl) ?_)
      refine l_of (s_val (v := .pointer (some ⟨tg4, 0, none⟩)) (wt0 rfl) rfl rfl (x_assign rfl rfl) ?_)
      refine l_of (s_val (v := .int .i64 0) (wt0 rfl) rfl rfl (x_assign rfl rfl) ?_)
      refine g_nil ?_
      refine g_then ?_
      refine g_ret ?_
      refine fin_ret [.tmp 2, .tmp 3] [.pointer (some ⟨tg4, 0, none⟩), .int .i64 0] rfl ⟨rfl, rfl, trivial⟩ ?_
      exact .inl ⟨hce, tg4, mg5, rfl, H15.takes [1, 0, 4] (by decide)⟩
  · skip
    have hce : ¬ checkE l = 0 := by rw [← root_err]; omega
    refine g_cond_t rfl (nt hb3) ?_
    refine g_seq ?_
    refine g_region ?_
    refine l_of (s_val (v := .int .i64 ((rootS l).2)) (wt0 rfl) rfl rfl (x_move rfl rfl) ?_)
    refine l_of (s_val (v := .pointer none) (wt0 rfl) rfl rfl (x_assign rfl rfl) ?_)
    refine l_of (s_val (v := .int .i64 ((rootS l).2)) (wt0 rfl) rfl rfl (x_assign rfl rfl) ?_)
    refine g_nil ?_
    refine g_then ?_
    refine g_ret ?_
    refine g_then_ret ?_
    refine fin_ret [.tmp 2, .tmp 3] [.pointer none, .int .i64 ((rootS l).2)] rfl ⟨rfl, rfl, trivial⟩ ?_
    exact .inr ⟨hce, by rw [← root_err]; rfl, H2.mask [true]⟩
def lvM (l : List ByteArray) : Nat → PM
  | 0 => fun _ => none
  | a + 1 => rowZ (lvM l a) a (lvlS 0 l a) (lvlS 0 l a).length
theorem lvM_get {l : List ByteArray} (h1 : 1 ≤ l.length) : ∀ (k x y : Nat), x < k → y < countN l.length x → lvM l k (x, y) = some ((lvlS 0 l x).getD y ⟨#[]⟩)
  | k + 1, x, y, hx, hy => by
    show rowZ (lvM l k) k (lvlS 0 l k) (lvlS 0 l k).length (x, y) = _
    rw [rowZ_get, lvl_count h1]
    by_cases e : x = k
    · subst e; rw [if_pos ⟨rfl, hy⟩]
    · rw [if_neg (fun h => e h.1)]; exact lvM_get h1 k x y (by omega) hy
end Go.Proofs.YtlajgickimgigaaGreat
