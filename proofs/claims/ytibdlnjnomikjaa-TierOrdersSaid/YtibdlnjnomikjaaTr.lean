import Derived.Test.YtibdlnjnomikjaaTq
set_option linter.unusedSimpArgs false
set_option linter.unusedVariables false
namespace Go.Proofs.Ytibdlnjnomikjaa
open Go.RowKit

theorem cl35 : callable Try.prog 35 = true := by kernel_rfl
theorem fo61_1 : foO Try.prog 61 1 = some 1 := by kernel_rfl
theorem ze61 : zeO Try.prog 61 = some (.agg #[.pointer none, .int .i64 0]) := by kernel_rfl
set_option maxRecDepth 20000 in
set_option maxHeartbeats 4000000 in
set_option maxRecDepth 20000 in
set_option maxHeartbeats 4000000 in
theorem ended_s {g nr C y : Nat} {P : Option Addr} {mp : Value} {ev now til n : Int} {begun whole dn stopped : Bool} {t : Tk}  (w : World) (HS : S w [Ob g (.cells #[.pointer (some ⟨y, 0, none⟩), .int .i64 ev, .slice P nr C, mp, .int .i64 now, .int .i64 til, .bool begun, .bool whole, .bool dn, .bool stopped] 64 (0, 0)), Ob y (.cells #[.string (t.name), .int .i64 (t.failed), .int .i64 (t.after), .bool t.ans, .bool t.told] 71 (0, 0))]) : Calls Try.prog 35 #[.pointer (some ⟨g, 0, none⟩), .int .i64 n] w fun e w' => (tellS now n ≠ 0 ∧ e = .returned (.tuple #[.agg #[.pointer none, .int .i64 0], .int .i64 (tellS now n)]) ∧ S w' ([Ob g (.cells #[.pointer (some ⟨y, 0, none⟩), .int .i64 ev, .slice P nr C, mp, .int .i64 now, .int .i64 til, .bool begun, .bool whole, .bool dn, .bool stopped] 64 (0, 0)), Ob y (.cells #[.string (t.name), .int .i64 (t.failed), .int .i64 (t.after), .bool t.ans, .bool t.told] 71 (0, 0))] ++ [Old w (fps [Ob g (.cells #[.pointer (some ⟨y, 0, none⟩), .int .i64 ev, .slice P nr C, mp, .int .i64 now, .int .i64 til, .bool begun, .bool whole, .bool dn, .bool stopped] 64 (0, 0)), Ob y (.cells #[.string (t.name), .int .i64 (t.failed), .int .i64 (t.after), .bool t.ans, .bool t.told] 71 (0, 0))])])) ∨ (tellS now n = 0 ∧ e = .returned (.tuple #[.agg #[.pointer (some ⟨y, 0, none⟩), .int .i64 ev], .int .i64 0]) ∧ S w' ([Ob g (.cells #[.pointer none, .int .i64 0, .slice P nr C, mp, .int .i64 n, .int .i64 til, .bool begun, .bool whole, .bool dn, .bool stopped] 64 (0, 0)), Ob y (.cells #[.string (t.name), .int .i64 (t.failed), .int .i64 (t.after), .bool t.ans, .bool ((t.told || decide (ev = 2)))] 71 (0, 0))] ++ [Old w (fps [Ob g (.cells #[.pointer (some ⟨y, 0, none⟩), .int .i64 ev, .slice P nr C, mp, .int .i64 now, .int .i64 til, .bool begun, .bool whole, .bool dn, .bool stopped] 64 (0, 0)), Ob y (.cells #[.string (t.name), .int .i64 (t.failed), .int .i64 (t.after), .bool t.ans, .bool t.told] 71 (0, 0))])])) := by
  have H00 := HS.beginI
  have H0 : S w ([Ob g (.cells #[.pointer (some ⟨y, 0, none⟩), .int .i64 ev, .slice P nr C, mp, .int .i64 now, .int .i64 til, .bool begun, .bool whole, .bool dn, .bool stopped] 64 (0, 0)), Ob y (.cells #[.string (t.name), .int .i64 (t.failed), .int .i64 (t.after), .bool t.ans, .bool t.told] 71 (0, 0)), Old w (fps [Ob g (.cells #[.pointer (some ⟨y, 0, none⟩), .int .i64 ev, .slice P nr C, mp, .int .i64 now, .int .i64 til, .bool begun, .bool whole, .bool dn, .bool stopped] 64 (0, 0)), Ob y (.cells #[.string (t.name), .int .i64 (t.failed), .int .i64 (t.after), .bool t.ans, .bool t.told] 71 (0, 0))])]) := H00
  refine enter 46 Try.func35 rfl rfl rfl ?_
  refine g_weak [(0, .pointer (some ⟨g, 0, none⟩)), (1, .int .i64 n)] ⟨rfl, rfl, trivial⟩ ?_
  refine g_seq ?_
  refine g_region ?_
  refine l_of (s_alloc H0 (wt0 rfl) rfl rfl rfl ze61 ?_)
  intro g1 wq2 H3
  refine l_of (s_val (v := .int .i64 0) (wt0 rfl) rfl rfl (x_assign rfl rfl) ?_)
  refine g_nil ?_
  refine g_then ?_
  refine g_seq ?_
  refine g_seq ?_
  refine g_region ?_
  refine l_of (s_val (v := .pointer (some ⟨g, 0, none⟩)) (wt0 rfl) rfl rfl (x_move rfl rfl) ?_)
  refine l_of (s_val (v := .int .i64 n) (wt0 rfl) rfl rfl (x_move rfl rfl) ?_)
  refine l_of (s_call (wt0 rfl) (x_call' rfl rfl cl31) (tell_s  _ (H3.takes [1] (by decide))) ?_)
  rintro _ wq4 ⟨rfl, H5⟩
  replace H5 : S wq4 [Ob g (.cells #[.pointer (some ⟨y, 0, none⟩), .int .i64 ev, .slice P nr C, mp, .int .i64 now, .int .i64 til, .bool begun, .bool whole, .bool dn, .bool stopped] 64 (0, 0)), Ob g1 (.cells #[.pointer none, .int .i64 0] 61 (0, 0)), Ob y (.cells #[.string (t.name), .int .i64 (t.failed), .int .i64 (t.after), .bool t.ans, .bool t.told] 71 (0, 0)), Old w (fps [Ob g (.cells #[.pointer (some ⟨y, 0, none⟩), .int .i64 ev, .slice P nr C, mp, .int .i64 now, .int .i64 til, .bool begun, .bool whole, .bool dn, .bool stopped] 64 (0, 0)), Ob y (.cells #[.string (t.name), .int .i64 (t.failed), .int .i64 (t.after), .bool t.ans, .bool t.told] 71 (0, 0))])] := H3.absorbI (new := [Ob g (.cells #[.pointer (some ⟨y, 0, none⟩), .int .i64 ev, .slice P nr C, mp, .int .i64 now, .int .i64 til, .bool begun, .bool whole, .bool dn, .bool stopped] 64 (0, 0))]) [1] H5
  refine b_ret rfl rfl ?_
  refine l_of (s_val (v := .int .i64 ((tellS now n))) (wt0 rfl) rfl rfl (x_assign rfl rfl) ?_)
  refine g_nil ?_
  refine g_then ?_
  refine g_seq ?_
  refine g_region ?_
  refine l_of (s_val (v := .int .i64 ((tellS now n))) (wt0 rfl) rfl rfl (x_move rfl rfl) ?_)
  refine l_of (s_val (v := .bool (!decide (((tellS now n) : Int) = 0))) (wt0 rfl) rfl rfl (x_bin rfl rfl rfl b_neq) ?_)
  refine g_nil ?_
  refine g_then ?_
  by_cases hb6 : ((tellS now n) : Int) = 0
  · skip
    refine g_cond_f rfl (nf hb6) ?_
    refine g_skip ?_
    refine g_then ?_
    refine g_seq ?_
    refine g_region ?_
    refine l_of (s_val (v := .pointer (some ⟨g, 0, none⟩)) (wt0 rfl) rfl rfl (x_move rfl rfl) ?_)
    refine l_of (s_val (v := .pointer (some ⟨g, 0, none⟩)) (wt0 rfl) rfl rfl (x_nilCheck rfl rfl) ?_)
    refine l_of (s_val (v := .pointer (some ⟨g, 0, none⟩)) (wt0 rfl) rfl rfl (x_fieldAddr rfl rfl fo64_0 rfl) ?_)
    refine l_of (s_val (v := .agg #[.pointer (some ⟨y, 0, none⟩), .int .i64 ev]) (wt0 rfl) rfl rfl (x_loadA H5 0 rfl rfl Try.underlying61 rfl sz61 rfl rfl rfl) ?_)
    refine l_of (s_alloc H5 (wt0 rfl) rfl rfl rfl ze61 ?_)
    intro g7 wq8 H9
    refine l_of (s_store H9 0 (wt0 rfl) rfl rfl rfl rfl rfl sz61 rfl rfl (cs' := #[.pointer (some ⟨y, 0, none⟩), .int .i64 ev]) rfl ?_)
    intro wq10 H11
    refine g_nil ?_
    refine g_then ?_
    refine g_seq ?_
    refine g_seq ?_
    refine g_region ?_
    refine l_of (s_val (v := .pointer (some ⟨g7, 0, none⟩)) (wt0 rfl) rfl rfl (x_fieldAddr rfl rfl fo61_0 rfl) ?_)
    refine l_of (s_val (v := .pointer (some ⟨y, 0, none⟩)) (wt0 rfl) rfl rfl (x_load1 H11 0 rfl rfl Try.underlying59 rfl rfl rfl) ?_)
    refine l_of (s_val (v := .bool false) (wt0 rfl) rfl rfl (x_bin rfl rfl rfl (b_eqN (r := false) Try.underlying59 rfl)) ?_)
    refine g_nil ?_
    refine g_then ?_
    refine g_weak [(0, .pointer (some ⟨g, 0, none⟩)), (1, .int .i64 n), (4, .pointer (some ⟨g1, 0, none⟩)), (7, .pointer (some ⟨g7, 0, none⟩)), (21, .bool false)] ⟨rfl, rfl, rfl, rfl, rfl, trivial⟩ ?_
    refine g_cond_f rfl rfl ?_
    refine g_skip ?_
    refine g_then ?_
    refine g_seq ?_
    refine g_region ?_
    refine l_of (s_val (v := .pointer (some ⟨g, 0, none⟩)) (wt0 rfl) rfl rfl (x_move rfl rfl) ?_)
    refine l_of (s_val (v := .int .i64 n) (wt0 rfl) rfl rfl (x_move rfl rfl) ?_)
    refine l_of (s_val (v := .pointer (some ⟨g, 0, none⟩)) (wt0 rfl) rfl rfl (x_nilCheck rfl rfl) ?_)
    refine l_of (s_val (v := .pointer (some ⟨g, 4, none⟩)) (wt0 rfl) rfl rfl (x_fieldAddr rfl rfl fo64_3 rfl) ?_)
    refine l_of (s_store H11 1 (wt0 rfl) rfl rfl rfl rfl rfl sz3 rfl rfl (cs' := #[.pointer (some ⟨y, 0, none⟩), .int .i64 ev, .slice P nr C, mp, .int .i64 n, .int .i64 til, .bool begun, .bool whole, .bool dn, .bool stopped]) rfl ?_)
    intro wq12 H13
    refine g_nil ?_
    refine g_then ?_
    refine g_seq ?_
    refine g_region ?_
    refine l_of (s_val (v := .pointer (some ⟨g, 0, none⟩)) (wt0 rfl) rfl rfl (x_move rfl rfl) ?_)
    refine l_of (s_val (v := .agg #[.pointer none, .int .i64 0]) (wt0 rfl) rfl rfl (x_build (vs := []) rfl rfl (cells := #[.pointer none, .int .i64 0]) (by kernel_rfl)) ?_)
    refine l_of (s_val (v := .pointer (some ⟨g, 0, none⟩)) (wt0 rfl) rfl rfl (x_nilCheck rfl rfl) ?_)
    refine l_of (s_val (v := .pointer (some ⟨g, 0, none⟩)) (wt0 rfl) rfl rfl (x_fieldAddr rfl rfl fo64_0 rfl) ?_)
    refine l_of (s_store H13 1 (wt0 rfl) rfl rfl rfl rfl rfl sz61 rfl rfl (cs' := #[.pointer none, .int .i64 0, .slice P nr C, mp, .int .i64 n, .int .i64 til, .bool begun, .bool whole, .bool dn, .bool stopped]) rfl ?_)
    intro wq14 H15
    refine g_nil ?_
    refine g_then ?_
    refine g_seq ?_
    refine g_any [] (fun wx => S wx [Ob g7 (.cells #[.pointer (some ⟨y, 0, none⟩), .int .i64 ev] 61 (0, 0)), Ob y (.cells #[.string (t.name), .int .i64 (t.failed), .int .i64 (t.after), .bool t.ans, .bool t.told] 71 (0, 0))]) [14] (by kernel_rfl) H15 (fun wq16 H17 => ?_)
    refine a_take (v := .pointer (some ⟨g7, 0, none⟩)) 0 rfl (wt0 rfl) rfl rfl rfl (by kernel_rfl) (by kernel_rfl) (by kernel_rfl) (by kernel_rfl) (H17.mask [true, false, false, true, false]) (fun wx H => x_fieldAddr rfl rfl fo61_0 rfl) ?_
    refine a_take (v := .pointer (some ⟨y, 0, none⟩)) 1 rfl (wt0 rfl) rfl rfl rfl (by kernel_rfl) (by kernel_rfl) (by kernel_rfl) (by kernel_rfl) (H17.mask [true, false, false, true, false]) (fun wx H => x_load1 H 0 rfl rfl Try.underlying59 rfl rfl rfl) ?_
    refine a_take (v := .pointer (some ⟨g7, 0, none⟩)) 2 rfl (wt0 rfl) rfl rfl rfl (by kernel_rfl) (by kernel_rfl) (by kernel_rfl) (by kernel_rfl) (H17.mask [true, false, false, true, false]) (fun wx H => x_fieldAddr rfl rfl fo61_0 rfl) ?_
    refine a_take (v := .pointer (some ⟨y, 0, none⟩)) 3 rfl (wt0 rfl) rfl rfl rfl (by kernel_rfl) (by kernel_rfl) (by kernel_rfl) (by kernel_rfl) (H17.mask [true, false, false, true, false]) (fun wx H => x_load1 H 0 rfl rfl Try.underlying59 rfl rfl rfl) ?_
    refine a_take (v := .pointer (some ⟨y, 0, none⟩)) 4 rfl (wt0 rfl) rfl rfl rfl (by kernel_rfl) (by kernel_rfl) (by kernel_rfl) (by kernel_rfl) (H17.mask [true, false, false, true, false]) (fun wx H => x_nilCheck rfl rfl) ?_
    refine a_take (v := .pointer (some ⟨y, 4, none⟩)) 5 rfl (wt0 rfl) rfl rfl rfl (by kernel_rfl) (by kernel_rfl) (by kernel_rfl) (by kernel_rfl) (H17.mask [true, false, false, true, false]) (fun wx H => x_fieldAddr rfl rfl fo71_4 rfl) ?_
    refine a_take (v := .bool t.told) 6 rfl (wt0 rfl) rfl rfl rfl (by kernel_rfl) (by kernel_rfl) (by kernel_rfl) (by kernel_rfl) (H17.mask [true, false, false, true, false]) (fun wx H => x_load1 H 1 rfl rfl Try.underlying4 rfl rfl rfl) ?_
    refine a_take (v := .bool t.told) 7 rfl (wt0 rfl) rfl rfl rfl (by kernel_rfl) (by kernel_rfl) (by kernel_rfl) (by kernel_rfl) (H17.mask [true, false, false, true, false]) (fun wx H => x_move rfl rfl) ?_
    rcases Bool.eq_false_or_eq_true (t.told) with hb18 | hb18
    · skip
      refine a_not 8 rfl (wn1 rfl rfl rfl rfl hb18) rfl rfl rfl (by kernel_rfl) (by kernel_rfl) (by kernel_rfl) (by kernel_rfl) (H17.mask [true, false, false, true, false]) ?_
      refine a_not 9 rfl (wn1 rfl rfl rfl rfl hb18) rfl rfl rfl (by kernel_rfl) (by kernel_rfl) (by kernel_rfl) (by kernel_rfl) (H17.mask [true, false, false, true, false]) ?_
      refine a_not 10 rfl (wn1 rfl rfl rfl rfl hb18) rfl rfl rfl (by kernel_rfl) (by kernel_rfl) (by kernel_rfl) (by kernel_rfl) (H17.mask [true, false, false, true, false]) ?_
      refine a_take (v := .bool true) 11 rfl (wt0 rfl) rfl rfl rfl (by kernel_rfl) (by kernel_rfl) (by kernel_rfl) (by kernel_rfl) (H17.mask [true, false, false, true, false]) (fun wx H => x_pick_t rfl rfl hb18 rfl) ?_
      refine a_one (i := 12) (by kernel_rfl) rfl ?_
      refine s_val (v := .pointer (some ⟨y, 0, none⟩)) (wt0 rfl) rfl rfl (x_nilCheck rfl rfl) ?_
      refine a_k (H17.mask [true, false, false, true, false]) ?_
      refine a_take (v := .pointer (some ⟨y, 4, none⟩)) 13 rfl (wt0 rfl) rfl rfl rfl (by kernel_rfl) (by kernel_rfl) (by kernel_rfl) (by kernel_rfl) (H17.mask [true, false, false, true, false]) (fun wx H => x_fieldAddr rfl rfl fo71_4 rfl) ?_
      refine a_one (i := 14) (by kernel_rfl) rfl ?_
      refine s_store H17 3 (wt0 rfl) rfl rfl rfl rfl rfl sz4 rfl rfl (cs' := #[.string (t.name), .int .i64 (t.failed), .int .i64 (t.after), .bool t.ans, .bool true]) rfl ?_
      intro wq19 H20
      refine a_kt rfl ?_
      refine a_done (by kernel_rfl) ?_
      refine g_then ?_
      refine g_weak [(4, .pointer (some ⟨g1, 0, none⟩)), (7, .pointer (some ⟨g7, 0, none⟩))] ⟨rfl, rfl, trivial⟩ ?_
      refine g_seq ?_
      refine g_region ?_
      refine l_of (s_val (v := .agg #[.pointer (some ⟨y, 0, none⟩), .int .i64 ev]) (wt0 rfl) rfl rfl (x_loadA H20 0 rfl rfl Try.underlying61 rfl sz61 rfl rfl rfl) ?_)
      refine l_of (s_store H20 2 (wt0 rfl) rfl rfl rfl rfl rfl sz61 rfl rfl (cs' := #[.pointer (some ⟨y, 0, none⟩), .int .i64 ev]) rfl ?_)
      intro wq21 H22
      refine l_of (s_val (v := .int .i64 0) (wt0 rfl) rfl rfl (x_assign rfl rfl) ?_)
      refine g_nil ?_
      refine g_then ?_
      refine g_ret ?_
      refine fin_ret [.cell 4 61, .tmp 5] [.agg #[.pointer (some ⟨y, 0, none⟩), .int .i64 ev], .int .i64 0] rfl ⟨⟨_, rfl, run_loadA (H22.ob (k := 2) rfl) Try.underlying61 rfl sz61 rfl rfl⟩, rfl, trivial⟩ ?_
      have e1 : (t.told || decide (ev = 2)) = (true) := by simp [hb18]
      exact .inr ⟨hb6, rfl, by rw [e1]; exact H22.takes [1, 3, 4] (by decide)⟩
    · skip
      refine a_take (v := .pointer (some ⟨g7, 1, none⟩)) 8 rfl (wt1 rfl rfl rfl rfl hb18) rfl rfl rfl (by kernel_rfl) (by kernel_rfl) (by kernel_rfl) (by kernel_rfl) (H17.mask [true, false, false, true, false]) (fun wx H => x_fieldAddr rfl rfl fo61_1 rfl) ?_
      refine a_take (v := .int .i64 ev) 9 rfl (wt1 rfl rfl rfl rfl hb18) rfl rfl rfl (by kernel_rfl) (by kernel_rfl) (by kernel_rfl) (by kernel_rfl) (H17.mask [true, false, false, true, false]) (fun wx H => x_load1 H 0 rfl rfl Try.underlying3 rfl rfl rfl) ?_
      refine a_take (v := .bool (decide ((ev : Int) = 2))) 10 rfl (wt1 rfl rfl rfl rfl hb18) rfl rfl rfl (by kernel_rfl) (by kernel_rfl) (by kernel_rfl) (by kernel_rfl) (H17.mask [true, false, false, true, false]) (fun wx H => x_bin rfl rfl rfl b_eql) ?_
      refine a_take (v := .bool (decide ((ev : Int) = 2))) 11 rfl (wt0 rfl) rfl rfl rfl (by kernel_rfl) (by kernel_rfl) (by kernel_rfl) (by kernel_rfl) (H17.mask [true, false, false, true, false]) (fun wx H => x_pick_f rfl rfl hb18 rfl) ?_
      refine a_one (i := 12) (by kernel_rfl) rfl ?_
      refine s_val (v := .pointer (some ⟨y, 0, none⟩)) (wt0 rfl) rfl rfl (x_nilCheck rfl rfl) ?_
      refine a_k (H17.mask [true, false, false, true, false]) ?_
      refine a_take (v := .pointer (some ⟨y, 4, none⟩)) 13 rfl (wt0 rfl) rfl rfl rfl (by kernel_rfl) (by kernel_rfl) (by kernel_rfl) (by kernel_rfl) (H17.mask [true, false, false, true, false]) (fun wx H => x_fieldAddr rfl rfl fo71_4 rfl) ?_
      refine a_one (i := 14) (by kernel_rfl) rfl ?_
      refine s_store H17 3 (wt0 rfl) rfl rfl rfl rfl rfl sz4 rfl rfl (cs' := #[.string (t.name), .int .i64 (t.failed), .int .i64 (t.after), .bool t.ans, .bool (decide ((ev : Int) = 2))]) rfl ?_
      intro wq23 H24
      refine a_kt rfl ?_
      refine a_done (by kernel_rfl) ?_
      refine g_then ?_
      refine g_weak [(4, .pointer (some ⟨g1, 0, none⟩)), (7, .pointer (some ⟨g7, 0, none⟩))] ⟨rfl, rfl, trivial⟩ ?_
      refine g_seq ?_
      refine g_region ?_
      refine l_of (s_val (v := .agg #[.pointer (some ⟨y, 0, none⟩), .int .i64 ev]) (wt0 rfl) rfl rfl (x_loadA H24 0 rfl rfl Try.underlying61 rfl sz61 rfl rfl rfl) ?_)
      refine l_of (s_store H24 2 (wt0 rfl) rfl rfl rfl rfl rfl sz61 rfl rfl (cs' := #[.pointer (some ⟨y, 0, none⟩), .int .i64 ev]) rfl ?_)
      intro wq25 H26
      refine l_of (s_val (v := .int .i64 0) (wt0 rfl) rfl rfl (x_assign rfl rfl) ?_)
      refine g_nil ?_
      refine g_then ?_
      refine g_ret ?_
      refine fin_ret [.cell 4 61, .tmp 5] [.agg #[.pointer (some ⟨y, 0, none⟩), .int .i64 ev], .int .i64 0] rfl ⟨⟨_, rfl, run_loadA (H26.ob (k := 2) rfl) Try.underlying61 rfl sz61 rfl rfl⟩, rfl, trivial⟩ ?_
      have e1 : (t.told || decide (ev = 2)) = (decide ((ev : Int) = 2)) := by simp [hb18]
      exact .inr ⟨hb6, rfl, by rw [e1]; exact H26.takes [1, 3, 4] (by decide)⟩
  · skip
    refine g_cond_t rfl (nt hb6) ?_
    refine g_seq ?_
    refine g_region ?_
    refine l_of (s_val (v := .agg #[.pointer none, .int .i64 0]) (wt0 rfl) rfl rfl (x_build (vs := []) rfl rfl (cells := #[.pointer none, .int .i64 0]) (by kernel_rfl)) ?_)
    refine l_of (s_val (v := .int .i64 ((tellS now n))) (wt0 rfl) rfl rfl (x_move rfl rfl) ?_)
    refine l_of (s_store H5 1 (wt0 rfl) rfl rfl rfl rfl rfl sz61 rfl rfl (cs' := #[.pointer none, .int .i64 0]) rfl ?_)
    intro wq27 H28
    refine l_of (s_val (v := .int .i64 ((tellS now n))) (wt0 rfl) rfl rfl (x_assign rfl rfl) ?_)
    refine g_nil ?_
    refine g_then ?_
    refine g_ret ?_
    refine g_then_ret ?_
    refine fin_ret [.cell 4 61, .tmp 5] [.agg #[.pointer none, .int .i64 0], .int .i64 ((tellS now n))] rfl ⟨⟨_, rfl, run_loadA (H28.ob (k := 1) rfl) Try.underlying61 rfl sz61 rfl rfl⟩, rfl, trivial⟩ ?_
    exact .inl ⟨hb6, rfl, H28.takes [0, 2, 3] (by decide)⟩
set_option maxRecDepth 20000 in
set_option maxHeartbeats 4000000 in
set_option maxRecDepth 20000 in
set_option maxHeartbeats 4000000 in
theorem ended_0 {g nr C : Nat} {P : Option Addr} {mp : Value} {ev now til n : Int} {begun whole dn stopped : Bool}  (w : World) (HS : S w [Ob g (.cells #[.pointer none, .int .i64 ev, .slice P nr C, mp, .int .i64 now, .int .i64 til, .bool begun, .bool whole, .bool dn, .bool stopped] 64 (0, 0))]) : Calls Try.prog 35 #[.pointer (some ⟨g, 0, none⟩), .int .i64 n] w fun e w' => e = .returned (.tuple #[.agg #[.pointer none, .int .i64 0], .int .i64 (if tellS now n = 0 then 8 else tellS now n)]) ∧ S w' ([Ob g (.cells #[.pointer none, .int .i64 ev, .slice P nr C, mp, .int .i64 now, .int .i64 til, .bool begun, .bool whole, .bool dn, .bool stopped] 64 (0, 0))] ++ [Old w (fps [Ob g (.cells #[.pointer none, .int .i64 ev, .slice P nr C, mp, .int .i64 now, .int .i64 til, .bool begun, .bool whole, .bool dn, .bool stopped] 64 (0, 0))])]) := by
  have H00 := HS.beginI
  have H0 : S w ([Ob g (.cells #[.pointer none, .int .i64 ev, .slice P nr C, mp, .int .i64 now, .int .i64 til, .bool begun, .bool whole, .bool dn, .bool stopped] 64 (0, 0)), Old w (fps [Ob g (.cells #[.pointer none, .int .i64 ev, .slice P nr C, mp, .int .i64 now, .int .i64 til, .bool begun, .bool whole, .bool dn, .bool stopped] 64 (0, 0))])]) := H00
  refine enter 46 Try.func35 rfl rfl rfl ?_
  refine g_weak [(0, .pointer (some ⟨g, 0, none⟩)), (1, .int .i64 n)] ⟨rfl, rfl, trivial⟩ ?_
  refine g_seq ?_
  refine g_region ?_
  refine l_of (s_alloc H0 (wt0 rfl) rfl rfl rfl ze61 ?_)
  intro g1 wq2 H3
  refine l_of (s_val (v := .int .i64 0) (wt0 rfl) rfl rfl (x_assign rfl rfl) ?_)
  refine g_nil ?_
  refine g_then ?_
  refine g_seq ?_
  refine g_seq ?_
  refine g_region ?_
  refine l_of (s_val (v := .pointer (some ⟨g, 0, none⟩)) (wt0 rfl) rfl rfl (x_move rfl rfl) ?_)
  refine l_of (s_val (v := .int .i64 n) (wt0 rfl) rfl rfl (x_move rfl rfl) ?_)
  refine l_of (s_call (wt0 rfl) (x_call' rfl rfl cl31) (tell_s  _ (H3.takes [1] (by decide))) ?_)
  rintro _ wq4 ⟨rfl, H5⟩
  replace H5 : S wq4 [Ob g (.cells #[.pointer none, .int .i64 ev, .slice P nr C, mp, .int .i64 now, .int .i64 til, .bool begun, .bool whole, .bool dn, .bool stopped] 64 (0, 0)), Ob g1 (.cells #[.pointer none, .int .i64 0] 61 (0, 0)), Old w (fps [Ob g (.cells #[.pointer none, .int .i64 ev, .slice P nr C, mp, .int .i64 now, .int .i64 til, .bool begun, .bool whole, .bool dn, .bool stopped] 64 (0, 0))])] := H3.absorbI (new := [Ob g (.cells #[.pointer none, .int .i64 ev, .slice P nr C, mp, .int .i64 now, .int .i64 til, .bool begun, .bool whole, .bool dn, .bool stopped] 64 (0, 0))]) [1] H5
  refine b_ret rfl rfl ?_
  refine l_of (s_val (v := .int .i64 ((tellS now n))) (wt0 rfl) rfl rfl (x_assign rfl rfl) ?_)
  refine g_nil ?_
  refine g_then ?_
  refine g_seq ?_
  refine g_region ?_
  refine l_of (s_val (v := .int .i64 ((tellS now n))) (wt0 rfl) rfl rfl (x_move rfl rfl) ?_)
  refine l_of (s_val (v := .bool (!decide (((tellS now n) : Int) = 0))) (wt0 rfl) rfl rfl (x_bin rfl rfl rfl b_neq) ?_)
  refine g_nil ?_
  refine g_then ?_
  by_cases hb6 : ((tellS now n) : Int) = 0
  · skip
    refine g_cond_f rfl (nf hb6) ?_
    refine g_skip ?_
    refine g_then ?_
    refine g_seq ?_
    refine g_region ?_
    refine l_of (s_val (v := .pointer (some ⟨g, 0, none⟩)) (wt0 rfl) rfl rfl (x_move rfl rfl) ?_)
    refine l_of (s_val (v := .pointer (some ⟨g, 0, none⟩)) (wt0 rfl) rfl rfl (x_nilCheck rfl rfl) ?_)
    refine l_of (s_val (v := .pointer (some ⟨g, 0, none⟩)) (wt0 rfl) rfl rfl (x_fieldAddr rfl rfl fo64_0 rfl) ?_)
    refine l_of (s_val (v := .agg #[.pointer none, .int .i64 ev]) (wt0 rfl) rfl rfl (x_loadA H5 0 rfl rfl Try.underlying61 rfl sz61 rfl rfl rfl) ?_)
    refine l_of (s_alloc H5 (wt0 rfl) rfl rfl rfl ze61 ?_)
    intro g7 wq8 H9
    refine l_of (s_store H9 0 (wt0 rfl) rfl rfl rfl rfl rfl sz61 rfl rfl (cs' := #[.pointer none, .int .i64 ev]) rfl ?_)
    intro wq10 H11
    refine g_nil ?_
    refine g_then ?_
    refine g_seq ?_
    refine g_seq ?_
    refine g_region ?_
    refine l_of (s_val (v := .pointer (some ⟨g7, 0, none⟩)) (wt0 rfl) rfl rfl (x_fieldAddr rfl rfl fo61_0 rfl) ?_)
    refine l_of (s_val (v := .pointer none) (wt0 rfl) rfl rfl (x_load1 H11 0 rfl rfl Try.underlying59 rfl rfl rfl) ?_)
    refine l_of (s_val (v := .bool true) (wt0 rfl) rfl rfl (x_bin rfl rfl rfl (b_eqN (r := true) Try.underlying59 rfl)) ?_)
    refine g_nil ?_
    refine g_then ?_
    refine g_weak [(0, .pointer (some ⟨g, 0, none⟩)), (1, .int .i64 n), (4, .pointer (some ⟨g1, 0, none⟩)), (7, .pointer (some ⟨g7, 0, none⟩)), (21, .bool true)] ⟨rfl, rfl, rfl, rfl, rfl, trivial⟩ ?_
    refine g_cond_t rfl rfl ?_
    refine g_seq ?_
    refine g_region ?_
    refine l_of (s_val (v := .agg #[.pointer none, .int .i64 0]) (wt0 rfl) rfl rfl (x_build (vs := []) rfl rfl (cells := #[.pointer none, .int .i64 0]) (by kernel_rfl)) ?_)
    refine l_of (s_store H11 2 (wt0 rfl) rfl rfl rfl rfl rfl sz61 rfl rfl (cs' := #[.pointer none, .int .i64 0]) rfl ?_)
    intro wq12 H13
    refine l_of (s_val (v := .int .i64 8) (wt0 rfl) rfl rfl (x_assign rfl rfl) ?_)
    refine g_nil ?_
    refine g_then ?_
    refine g_ret ?_
    refine g_then_ret ?_
    refine fin_ret [.cell 4 61, .tmp 5] [.agg #[.pointer none, .int .i64 0], .int .i64 8] rfl ⟨⟨_, rfl, run_loadA (H13.ob (k := 2) rfl) Try.underlying61 rfl sz61 rfl rfl⟩, rfl, trivial⟩ ?_
    exact ⟨by rw [if_pos hb6]; rfl, H13.takes [1, 3] (by decide)⟩
  · skip
    refine g_cond_t rfl (nt hb6) ?_
    refine g_seq ?_
    refine g_region ?_
    refine l_of (s_val (v := .agg #[.pointer none, .int .i64 0]) (wt0 rfl) rfl rfl (x_build (vs := []) rfl rfl (cells := #[.pointer none, .int .i64 0]) (by kernel_rfl)) ?_)
    refine l_of (s_val (v := .int .i64 ((tellS now n))) (wt0 rfl) rfl rfl (x_move rfl rfl) ?_)
    refine l_of (s_store H5 1 (wt0 rfl) rfl rfl rfl rfl rfl sz61 rfl rfl (cs' := #[.pointer none, .int .i64 0]) rfl ?_)
    intro wq14 H15
    refine l_of (s_val (v := .int .i64 ((tellS now n))) (wt0 rfl) rfl rfl (x_assign rfl rfl) ?_)
    refine g_nil ?_
    refine g_then ?_
    refine g_ret ?_
    refine g_then_ret ?_
    refine fin_ret [.cell 4 61, .tmp 5] [.agg #[.pointer none, .int .i64 0], .int .i64 ((tellS now n))] rfl ⟨⟨_, rfl, run_loadA (H15.ob (k := 1) rfl) Try.underlying61 rfl sz61 rfl rfl⟩, rfl, trivial⟩ ?_
    exact ⟨by rw [if_neg hb6]; rfl, H15.takes [0, 2] (by decide)⟩
theorem tellS_0 {a b : Int} (h : tellS a b = 0) : a ≤ b ∧ b ≤ 1000000000 := by
  unfold tellS at h
  split at h
  · cases h
  · omega
set_option maxRecDepth 20000 in
set_option maxHeartbeats 4000000 in
set_option maxRecDepth 20000 in
set_option maxHeartbeats 4000000 in
theorem fail_s {g nr C y : Nat} {P : Option Addr} {mp : Value} {ev now til n : Int} {begun whole dn stopped : Bool} {t : Tk} (h0 : 0 ≤ t.failed) (h1 : t.failed ≤ 100000) (h2 : 0 ≤ now)  (w : World) (HS : S w [Ob g (.cells #[.pointer (some ⟨y, 0, none⟩), .int .i64 ev, .slice P nr C, mp, .int .i64 now, .int .i64 til, .bool begun, .bool whole, .bool dn, .bool stopped] 64 (0, 0)), Ob y (.cells #[.string (t.name), .int .i64 (t.failed), .int .i64 (t.after), .bool t.ans, .bool t.told] 71 (0, 0))]) : Calls Try.prog 14 #[.pointer (some ⟨g, 0, none⟩), .int .i64 n] w fun e w' => (tellS now n ≠ 0 ∧ e = .returned (.int .i64 (tellS now n)) ∧ S w' ([Ob g (.cells #[.pointer (some ⟨y, 0, none⟩), .int .i64 ev, .slice P nr C, mp, .int .i64 now, .int .i64 til, .bool begun, .bool whole, .bool dn, .bool stopped] 64 (0, 0)), Ob y (.cells #[.string (t.name), .int .i64 (t.failed), .int .i64 (t.after), .bool t.ans, .bool t.told] 71 (0, 0))] ++ [Old w (fps [Ob g (.cells #[.pointer (some ⟨y, 0, none⟩), .int .i64 ev, .slice P nr C, mp, .int .i64 now, .int .i64 til, .bool begun, .bool whole, .bool dn, .bool stopped] 64 (0, 0)), Ob y (.cells #[.string (t.name), .int .i64 (t.failed), .int .i64 (t.after), .bool t.ans, .bool t.told] 71 (0, 0))])])) ∨ (tellS now n = 0 ∧ e = .returned (.int .i64 0) ∧ S w' ([Ob g (.cells #[.pointer none, .int .i64 0, .slice P nr C, mp, .int .i64 n, .int .i64 til, .bool begun, .bool whole, .bool dn, .bool stopped] 64 (0, 0)), Ob y (.cells #[.string (t.name), .int .i64 ((t.failed + 1)), .int .i64 ((n + waitS (t.failed + 1))), .bool t.ans, .bool ((t.told || decide (ev = 2)))] 71 (0, 0))] ++ [Old w (fps [Ob g (.cells #[.pointer (some ⟨y, 0, none⟩), .int .i64 ev, .slice P nr C, mp, .int .i64 now, .int .i64 til, .bool begun, .bool whole, .bool dn, .bool stopped] 64 (0, 0)), Ob y (.cells #[.string (t.name), .int .i64 (t.failed), .int .i64 (t.after), .bool t.ans, .bool t.told] 71 (0, 0))])])) := by
  have H00 := HS.beginI
  have H0 : S w ([Ob g (.cells #[.pointer (some ⟨y, 0, none⟩), .int .i64 ev, .slice P nr C, mp, .int .i64 now, .int .i64 til, .bool begun, .bool whole, .bool dn, .bool stopped] 64 (0, 0)), Ob y (.cells #[.string (t.name), .int .i64 (t.failed), .int .i64 (t.after), .bool t.ans, .bool t.told] 71 (0, 0)), Old w (fps [Ob g (.cells #[.pointer (some ⟨y, 0, none⟩), .int .i64 ev, .slice P nr C, mp, .int .i64 now, .int .i64 til, .bool begun, .bool whole, .bool dn, .bool stopped] 64 (0, 0)), Ob y (.cells #[.string (t.name), .int .i64 (t.failed), .int .i64 (t.after), .bool t.ans, .bool t.told] 71 (0, 0))])]) := H00
  refine enter 36 Try.func14 rfl rfl rfl ?_
  refine g_weak [(0, .pointer (some ⟨g, 0, none⟩)), (1, .int .i64 n)] ⟨rfl, rfl, trivial⟩ ?_
  refine g_seq ?_
  refine g_region ?_
  refine l_of (s_val (v := .int .i64 0) (wt0 rfl) rfl rfl (x_assign rfl rfl) ?_)
  refine g_nil ?_
  refine g_then ?_
  refine g_seq ?_
  refine g_region ?_
  refine l_of (s_val (v := .pointer (some ⟨g, 0, none⟩)) (wt0 rfl) rfl rfl (x_move rfl rfl) ?_)
  refine l_of (s_val (v := .int .i64 n) (wt0 rfl) rfl rfl (x_move rfl rfl) ?_)
  refine l_of (s_call (wt0 rfl) (x_call' rfl rfl cl35) (ended_s (t := t) _ (H0.takes [0, 1] (by decide))) ?_)
  rintro ee3 wq1 hor4
  rcases hor4 with ⟨hl1, rfl, H2⟩ | ⟨hl0, rfl, H2⟩
  · skip
    replace H2 : S wq1 [Ob g (.cells #[.pointer (some ⟨y, 0, none⟩), .int .i64 ev, .slice P nr C, mp, .int .i64 now, .int .i64 til, .bool begun, .bool whole, .bool dn, .bool stopped] 64 (0, 0)), Ob y (.cells #[.string (t.name), .int .i64 (t.failed), .int .i64 (t.after), .bool t.ans, .bool t.told] 71 (0, 0)), Old w (fps [Ob g (.cells #[.pointer (some ⟨y, 0, none⟩), .int .i64 ev, .slice P nr C, mp, .int .i64 now, .int .i64 til, .bool begun, .bool whole, .bool dn, .bool stopped] 64 (0, 0)), Ob y (.cells #[.string (t.name), .int .i64 (t.failed), .int .i64 (t.after), .bool t.ans, .bool t.told] 71 (0, 0))])] := H0.absorbI (new := [Ob g (.cells #[.pointer (some ⟨y, 0, none⟩), .int .i64 ev, .slice P nr C, mp, .int .i64 now, .int .i64 til, .bool begun, .bool whole, .bool dn, .bool stopped] 64 (0, 0)), Ob y (.cells #[.string (t.name), .int .i64 (t.failed), .int .i64 (t.after), .bool t.ans, .bool t.told] 71 (0, 0))]) [0, 1] H2
    refine b_ret rfl rfl ?_
    refine l_of (s_val (v := .tuple #[.agg #[.pointer none, .int .i64 0], .int .i64 ((tellS now n))]) (wt0 rfl) rfl rfl (x_move rfl rfl) ?_)
    refine l_of (s_val (v := .agg #[.pointer none, .int .i64 0]) (wt0 rfl) rfl rfl (x_extract rfl rfl rfl) ?_)
    refine l_of (s_val (v := .int .i64 ((tellS now n))) (wt0 rfl) rfl rfl (x_extract rfl rfl rfl) ?_)
    refine l_of (s_alloc H2 (wt0 rfl) rfl rfl rfl ze61 ?_)
    intro g5 wq6 H7
    refine l_of (s_store H7 0 (wt0 rfl) rfl rfl rfl rfl rfl sz61 rfl rfl (cs' := #[.pointer none, .int .i64 0]) rfl ?_)
    intro wq8 H9
    refine l_of (s_val (v := .int .i64 ((tellS now n))) (wt0 rfl) rfl rfl (x_assign rfl rfl) ?_)
    refine g_nil ?_
    refine g_then ?_
    refine g_seq ?_
    refine g_seq ?_
    refine g_region ?_
    refine l_of (s_val (v := .int .i64 ((tellS now n))) (wt0 rfl) rfl rfl (x_move rfl rfl) ?_)
    refine l_of (s_val (v := .bool (decide (((tellS now n) : Int) = 0))) (wt0 rfl) rfl rfl (x_bin rfl rfl rfl b_eql) ?_)
    refine g_nil ?_
    refine g_then ?_
    refine g_cond_f rfl (decide_eq_false hl1) ?_
    refine g_skip ?_
    refine g_then ?_
    refine g_weak [(6, .int .i64 ((tellS now n)))] ⟨rfl, trivial⟩ ?_
    refine g_seq ?_
    refine g_region ?_
    refine l_of (s_val (v := .int .i64 ((tellS now n))) (wt0 rfl) rfl rfl (x_move rfl rfl) ?_)
    refine l_of (s_val (v := .int .i64 ((tellS now n))) (wt0 rfl) rfl rfl (x_assign rfl rfl) ?_)
    refine g_nil ?_
    refine g_then ?_
    refine g_ret ?_
    refine fin_ret [.tmp 4] [.int .i64 ((tellS now n))] rfl ⟨rfl, trivial⟩ ?_
    exact .inl ⟨hl1, rfl, H9.takes [1, 2, 3] (by decide)⟩
  · skip
    replace H2 : S wq1 [Ob g (.cells #[.pointer none, .int .i64 0, .slice P nr C, mp, .int .i64 n, .int .i64 til, .bool begun, .bool whole, .bool dn, .bool stopped] 64 (0, 0)), Ob y (.cells #[.string (t.name), .int .i64 (t.failed), .int .i64 (t.after), .bool t.ans, .bool ((t.told || decide (ev = 2)))] 71 (0, 0)), Old w (fps [Ob g (.cells #[.pointer (some ⟨y, 0, none⟩), .int .i64 ev, .slice P nr C, mp, .int .i64 now, .int .i64 til, .bool begun, .bool whole, .bool dn, .bool stopped] 64 (0, 0)), Ob y (.cells #[.string (t.name), .int .i64 (t.failed), .int .i64 (t.after), .bool t.ans, .bool t.told] 71 (0, 0))])] := H0.absorbI (new := [Ob g (.cells #[.pointer none, .int .i64 0, .slice P nr C, mp, .int .i64 n, .int .i64 til, .bool begun, .bool whole, .bool dn, .bool stopped] 64 (0, 0)), Ob y (.cells #[.string (t.name), .int .i64 (t.failed), .int .i64 (t.after), .bool t.ans, .bool ((t.told || decide (ev = 2)))] 71 (0, 0))]) [0, 1] H2
    refine b_ret rfl rfl ?_
    refine l_of (s_val (v := .tuple #[.agg #[.pointer (some ⟨y, 0, none⟩), .int .i64 ev], .int .i64 0]) (wt0 rfl) rfl rfl (x_move rfl rfl) ?_)
    refine l_of (s_val (v := .agg #[.pointer (some ⟨y, 0, none⟩), .int .i64 ev]) (wt0 rfl) rfl rfl (x_extract rfl rfl rfl) ?_)
    refine l_of (s_val (v := .int .i64 0) (wt0 rfl) rfl rfl (x_extract rfl rfl rfl) ?_)
    refine l_of (s_alloc H2 (wt0 rfl) rfl rfl rfl ze61 ?_)
    intro g10 wq11 H12
    refine l_of (s_store H12 0 (wt0 rfl) rfl rfl rfl rfl rfl sz61 rfl rfl (cs' := #[.pointer (some ⟨y, 0, none⟩), .int .i64 ev]) rfl ?_)
    intro wq13 H14
    refine l_of (s_val (v := .int .i64 0) (wt0 rfl) rfl rfl (x_assign rfl rfl) ?_)
    refine g_nil ?_
    refine g_then ?_
    refine g_seq ?_
    refine g_seq ?_
    refine g_region ?_
    refine l_of (s_val (v := .int .i64 0) (wt0 rfl) rfl rfl (x_move rfl rfl) ?_)
    refine l_of (s_val (v := .bool (decide ((0 : Int) = 0))) (wt0 rfl) rfl rfl (x_bin rfl rfl rfl b_eql) ?_)
    refine g_nil ?_
    refine g_then ?_
    refine g_cond_t rfl (decide_eq_true rfl) ?_
    refine g_seq ?_
    refine g_region ?_
    refine l_of (s_val (v := .pointer (some ⟨g10, 0, none⟩)) (wt0 rfl) rfl rfl (x_fieldAddr rfl rfl fo61_0 rfl) ?_)
    refine l_of (s_val (v := .pointer (some ⟨y, 0, none⟩)) (wt0 rfl) rfl rfl (x_load1 H14 0 rfl rfl Try.underlying59 rfl rfl rfl) ?_)
    refine l_of (s_val (v := .pointer (some ⟨y, 0, none⟩)) (wt0 rfl) rfl rfl (x_nilCheck rfl rfl) ?_)
    refine l_of (s_val (v := .pointer (some ⟨y, 1, none⟩)) (wt0 rfl) rfl rfl (x_fieldAddr rfl rfl fo71_1 rfl) ?_)
    refine l_of (s_val (v := .int .i64 (t.failed)) (wt0 rfl) rfl rfl (x_load1 H14 2 rfl rfl Try.underlying3 rfl rfl rfl) ?_)
    refine l_of (s_val (v := .int .i64 (t.failed + 1)) (wt0 rfl) rfl rfl (x_bin rfl rfl rfl (b_add (w64 (by omega)))) ?_)
    refine l_of (s_val (v := .pointer (some ⟨y, 0, none⟩)) (wt0 rfl) rfl rfl (x_nilCheck rfl rfl) ?_)
    refine l_of (s_val (v := .pointer (some ⟨y, 1, none⟩)) (wt0 rfl) rfl rfl (x_fieldAddr rfl rfl fo71_1 rfl) ?_)
    refine l_of (s_store H14 2 (wt0 rfl) rfl rfl rfl rfl rfl sz3 rfl rfl (cs' := #[.string (t.name), .int .i64 (t.failed + 1), .int .i64 (t.after), .bool t.ans, .bool ((t.told || decide (ev = 2)))]) rfl ?_)
    intro wq15 H16
    refine g_nil ?_
    refine g_then ?_
    refine g_weak [(1, .int .i64 n), (5, .pointer (some ⟨g10, 0, none⟩)), (6, .int .i64 0)] ⟨rfl, rfl, rfl, trivial⟩ ?_
    refine g_any [] (fun wx => S wx [Ob g10 (.cells #[.pointer (some ⟨y, 0, none⟩), .int .i64 ev] 61 (0, 0)), Ob y (.cells #[.string (t.name), .int .i64 (t.failed + 1), .int .i64 (t.after), .bool t.ans, .bool ((t.told || decide (ev = 2)))] 71 (0, 0))]) [12] (by kernel_rfl) H16 (fun wq17 H18 => ?_)
    refine a_take (v := .pointer (some ⟨g10, 0, none⟩)) 0 rfl (wt0 rfl) rfl rfl rfl (by kernel_rfl) (by kernel_rfl) (by kernel_rfl) (by kernel_rfl) (H18.mask [true, false, true, false]) (fun wx H => x_fieldAddr rfl rfl fo61_0 rfl) ?_
    refine a_take (v := .pointer (some ⟨y, 0, none⟩)) 1 rfl (wt0 rfl) rfl rfl rfl (by kernel_rfl) (by kernel_rfl) (by kernel_rfl) (by kernel_rfl) (H18.mask [true, false, true, false]) (fun wx H => x_load1 H 0 rfl rfl Try.underlying59 rfl rfl rfl) ?_
    refine a_take (v := .int .i64 n) 2 rfl (wt0 rfl) rfl rfl rfl (by kernel_rfl) (by kernel_rfl) (by kernel_rfl) (by kernel_rfl) (H18.mask [true, false, true, false]) (fun wx H => x_move rfl rfl) ?_
    refine a_take (v := .pointer (some ⟨g10, 0, none⟩)) 3 rfl (wt0 rfl) rfl rfl rfl (by kernel_rfl) (by kernel_rfl) (by kernel_rfl) (by kernel_rfl) (H18.mask [true, false, true, false]) (fun wx H => x_fieldAddr rfl rfl fo61_0 rfl) ?_
    refine a_take (v := .pointer (some ⟨y, 0, none⟩)) 4 rfl (wt0 rfl) rfl rfl rfl (by kernel_rfl) (by kernel_rfl) (by kernel_rfl) (by kernel_rfl) (H18.mask [true, false, true, false]) (fun wx H => x_load1 H 0 rfl rfl Try.underlying59 rfl rfl rfl) ?_
    refine a_take (v := .pointer (some ⟨y, 0, none⟩)) 5 rfl (wt0 rfl) rfl rfl rfl (by kernel_rfl) (by kernel_rfl) (by kernel_rfl) (by kernel_rfl) (H18.mask [true, false, true, false]) (fun wx H => x_nilCheck rfl rfl) ?_
    refine a_take (v := .pointer (some ⟨y, 1, none⟩)) 6 rfl (wt0 rfl) rfl rfl rfl (by kernel_rfl) (by kernel_rfl) (by kernel_rfl) (by kernel_rfl) (H18.mask [true, false, true, false]) (fun wx H => x_fieldAddr rfl rfl fo71_1 rfl) ?_
    refine a_take (v := .int .i64 (t.failed + 1)) 7 rfl (wt0 rfl) rfl rfl rfl (by kernel_rfl) (by kernel_rfl) (by kernel_rfl) (by kernel_rfl) (H18.mask [true, false, true, false]) (fun wx H => x_load1 H 1 rfl rfl Try.underlying3 rfl rfl rfl) ?_
    refine a_one (i := 8) (by kernel_rfl) rfl ?_
    have hw2 := waitS_ge (t.failed + 1) (by omega)
    have hl2 := tellS_0 hl0
    refine s_call (wt0 rfl) (x_call' rfl rfl cl36) (wait_t _ (by omega) (by omega) _) ?_
    rintro _ wq19 ⟨rfl, H20⟩
    replace H20 : S wq19 [Ob g10 (.cells #[.pointer (some ⟨y, 0, none⟩), .int .i64 ev] 61 (0, 0)), Ob g (.cells #[.pointer none, .int .i64 0, .slice P nr C, mp, .int .i64 n, .int .i64 til, .bool begun, .bool whole, .bool dn, .bool stopped] 64 (0, 0)), Ob y (.cells #[.string (t.name), .int .i64 (t.failed + 1), .int .i64 (t.after), .bool t.ans, .bool ((t.told || decide (ev = 2)))] 71 (0, 0)), Old w (fps [Ob g (.cells #[.pointer (some ⟨y, 0, none⟩), .int .i64 ev, .slice P nr C, mp, .int .i64 now, .int .i64 til, .bool begun, .bool whole, .bool dn, .bool stopped] 64 (0, 0)), Ob y (.cells #[.string (t.name), .int .i64 (t.failed), .int .i64 (t.after), .bool t.ans, .bool t.told] 71 (0, 0))])] := H18.absorb (new := []) H20
    refine b_ret rfl rfl ?_
    refine a_k (H20.mask [true, false, true, false]) ?_
    refine a_take (v := .int .i64 (n + (waitS (t.failed + 1)))) 9 rfl (wt0 rfl) rfl rfl rfl (by kernel_rfl) (by kernel_rfl) (by kernel_rfl) (by kernel_rfl) (H20.mask [true, false, true, false]) (fun wx H => x_bin rfl rfl rfl (b_add (w64 (by omega)))) ?_
    refine a_one (i := 10) (by kernel_rfl) rfl ?_
    refine s_val (v := .pointer (some ⟨y, 0, none⟩)) (wt0 rfl) rfl rfl (x_nilCheck rfl rfl) ?_
    refine a_k (H20.mask [true, false, true, false]) ?_
    refine a_take (v := .pointer (some ⟨y, 2, none⟩)) 11 rfl (wt0 rfl) rfl rfl rfl (by kernel_rfl) (by kernel_rfl) (by kernel_rfl) (by kernel_rfl) (H20.mask [true, false, true, false]) (fun wx H => x_fieldAddr rfl rfl fo71_2 rfl) ?_
    refine a_one (i := 12) (by kernel_rfl) rfl ?_
    refine s_store H20 2 (wt0 rfl) rfl rfl rfl rfl rfl sz3 rfl rfl (cs' := #[.string (t.name), .int .i64 (t.failed + 1), .int .i64 (n + (waitS (t.failed + 1))), .bool t.ans, .bool ((t.told || decide (ev = 2)))]) rfl ?_
    intro wq21 H22
    refine a_kt rfl ?_
    refine a_done (by kernel_rfl) ?_
    refine g_then ?_
    refine g_weak [(6, .int .i64 0)] ⟨rfl, trivial⟩ ?_
    refine g_seq ?_
    refine g_region ?_
    refine l_of (s_val (v := .int .i64 0) (wt0 rfl) rfl rfl (x_move rfl rfl) ?_)
    refine l_of (s_val (v := .int .i64 0) (wt0 rfl) rfl rfl (x_assign rfl rfl) ?_)
    refine g_nil ?_
    refine g_then ?_
    refine g_ret ?_
    refine fin_ret [.tmp 4] [.int .i64 0] rfl ⟨rfl, trivial⟩ ?_
    exact .inr ⟨hl0, rfl, H22.takes [1, 2, 3] (by decide)⟩
set_option maxRecDepth 20000 in
set_option maxHeartbeats 4000000 in
set_option maxRecDepth 20000 in
set_option maxHeartbeats 4000000 in
theorem fail_0 {g nr C : Nat} {P : Option Addr} {mp : Value} {ev now til n : Int} {begun whole dn stopped : Bool}  (w : World) (HS : S w [Ob g (.cells #[.pointer none, .int .i64 ev, .slice P nr C, mp, .int .i64 now, .int .i64 til, .bool begun, .bool whole, .bool dn, .bool stopped] 64 (0, 0))]) : Calls Try.prog 14 #[.pointer (some ⟨g, 0, none⟩), .int .i64 n] w fun e w' => e = .returned (.int .i64 (if tellS now n = 0 then 8 else tellS now n)) ∧ S w' ([Ob g (.cells #[.pointer none, .int .i64 ev, .slice P nr C, mp, .int .i64 now, .int .i64 til, .bool begun, .bool whole, .bool dn, .bool stopped] 64 (0, 0))] ++ [Old w (fps [Ob g (.cells #[.pointer none, .int .i64 ev, .slice P nr C, mp, .int .i64 now, .int .i64 til, .bool begun, .bool whole, .bool dn, .bool stopped] 64 (0, 0))])]) := by
  have H00 := HS.beginI
  have H0 : S w ([Ob g (.cells #[.pointer none, .int .i64 ev, .slice P nr C, mp, .int .i64 now, .int .i64 til, .bool begun, .bool whole, .bool dn, .bool stopped] 64 (0, 0)), Old w (fps [Ob g (.cells #[.pointer none, .int .i64 ev, .slice P nr C, mp, .int .i64 now, .int .i64 til, .bool begun, .bool whole, .bool dn, .bool stopped] 64 (0, 0))])]) := H00
  refine enter 36 Try.func14 rfl rfl rfl ?_
  refine g_weak [(0, .pointer (some ⟨g, 0, none⟩)), (1, .int .i64 n)] ⟨rfl, rfl, trivial⟩ ?_
  refine g_seq ?_
  refine g_region ?_
  refine l_of (s_val (v := .int .i64 0) (wt0 rfl) rfl rfl (x_assign rfl rfl) ?_)
  refine g_nil ?_
  refine g_then ?_
  refine g_seq ?_
  refine g_region ?_
  refine l_of (s_val (v := .pointer (some ⟨g, 0, none⟩)) (wt0 rfl) rfl rfl (x_move rfl rfl) ?_)
  refine l_of (s_val (v := .int .i64 n) (wt0 rfl) rfl rfl (x_move rfl rfl) ?_)
  refine l_of (s_call (wt0 rfl) (x_call' rfl rfl cl35) (ended_0 _ (H0.takes [0] (by decide))) ?_)
  rintro ee3 wq1 hor4
  rcases hor4 with ⟨rfl, H2⟩
  replace H2 : S wq1 [Ob g (.cells #[.pointer none, .int .i64 ev, .slice P nr C, mp, .int .i64 now, .int .i64 til, .bool begun, .bool whole, .bool dn, .bool stopped] 64 (0, 0)), Old w (fps [Ob g (.cells #[.pointer none, .int .i64 ev, .slice P nr C, mp, .int .i64 now, .int .i64 til, .bool begun, .bool whole, .bool dn, .bool stopped] 64 (0, 0))])] := H0.absorbI (new := [Ob g (.cells #[.pointer none, .int .i64 ev, .slice P nr C, mp, .int .i64 now, .int .i64 til, .bool begun, .bool whole, .bool dn, .bool stopped] 64 (0, 0))]) [0] H2
  refine b_ret rfl rfl ?_
  refine l_of (s_val (v := .tuple #[.agg #[.pointer none, .int .i64 0], .int .i64 ((if tellS now n = 0 then 8 else tellS now n))]) (wt0 rfl) rfl rfl (x_move rfl rfl) ?_)
  refine l_of (s_val (v := .agg #[.pointer none, .int .i64 0]) (wt0 rfl) rfl rfl (x_extract rfl rfl rfl) ?_)
  refine l_of (s_val (v := .int .i64 ((if tellS now n = 0 then 8 else tellS now n))) (wt0 rfl) rfl rfl (x_extract rfl rfl rfl) ?_)
  refine l_of (s_alloc H2 (wt0 rfl) rfl rfl rfl ze61 ?_)
  intro g5 wq6 H7
  refine l_of (s_store H7 0 (wt0 rfl) rfl rfl rfl rfl rfl sz61 rfl rfl (cs' := #[.pointer none, .int .i64 0]) rfl ?_)
  intro wq8 H9
  refine l_of (s_val (v := .int .i64 ((if tellS now n = 0 then 8 else tellS now n))) (wt0 rfl) rfl rfl (x_assign rfl rfl) ?_)
  refine g_nil ?_
  refine g_then ?_
  refine g_seq ?_
  refine g_seq ?_
  refine g_region ?_
  refine l_of (s_val (v := .int .i64 ((if tellS now n = 0 then 8 else tellS now n))) (wt0 rfl) rfl rfl (x_move rfl rfl) ?_)
  refine l_of (s_val (v := .bool (decide (((if tellS now n = 0 then 8 else tellS now n) : Int) = 0))) (wt0 rfl) rfl rfl (x_bin rfl rfl rfl b_eql) ?_)
  refine g_nil ?_
  refine g_then ?_
  refine g_cond_f rfl (decide_eq_false (by split <;> omega)) ?_
  refine g_skip ?_
  refine g_then ?_
  refine g_weak [(6, .int .i64 ((if tellS now n = 0 then 8 else tellS now n)))] ⟨rfl, trivial⟩ ?_
  refine g_seq ?_
  refine g_region ?_
  refine l_of (s_val (v := .int .i64 ((if tellS now n = 0 then 8 else tellS now n))) (wt0 rfl) rfl rfl (x_move rfl rfl) ?_)
  refine l_of (s_val (v := .int .i64 ((if tellS now n = 0 then 8 else tellS now n))) (wt0 rfl) rfl rfl (x_assign rfl rfl) ?_)
  refine g_nil ?_
  refine g_then ?_
  refine g_ret ?_
  refine fin_ret [.tmp 4] [.int .i64 ((if tellS now n = 0 then 8 else tellS now n))] rfl ⟨rfl, trivial⟩ ?_
  exact ⟨rfl, H9.takes [1, 2] (by decide)⟩
end Go.Proofs.Ytibdlnjnomikjaa
