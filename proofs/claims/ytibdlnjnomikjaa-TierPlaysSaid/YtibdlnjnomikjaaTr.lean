import Derived.Test.YtibdlnjnomikjaaFk
import Derived.Test.YtibdlnjnomikjaaTq
set_option linter.unusedSimpArgs false
set_option linter.unusedVariables false
namespace Go.Proofs.Ytibdlnjnomikjaa
open Go.RowKit

theorem cl35 : callable Try.prog 35 = true := by kernel_rfl
theorem fo61_1 : foO Try.prog 61 1 = some 1 := by kernel_rfl
theorem ze61 : zeO Try.prog 61 = some (.agg #[.pointer none, .int .i64 0]) := by kernel_rfl
set_option maxRecDepth 20000 in
set_option maxHeartbeats 4000000 in
theorem ended_s {g nr C y : Nat} {P : Option Addr} {mp : Value} {ev now til n : Int} {begun whole dn stopped : Bool} {t : Tk}  (w : World) (HS : S w [Ob g (.cells #[.pointer (some ⟨y, 0, none⟩), .int .i64 ev, .slice P nr C, mp, .int .i64 now, .int .i64 til, .bool begun, .bool whole, .bool dn, .bool stopped] 64 (0, 0)), Ob y (.cells #[.string (t.name), .int .i64 (t.failed), .int .i64 (t.after), .bool t.ans, .bool t.told] 71 (0, 0))]) : Calls Try.prog 35 #[.pointer (some ⟨g, 0, none⟩), .int .i64 n] w fun e w' => (tellS now n ≠ 0 ∧ e = .returned (.tuple #[.agg #[.pointer none, .int .i64 0], .int .i64 (tellS now n)]) ∧ S w' ([Ob g (.cells #[.pointer (some ⟨y, 0, none⟩), .int .i64 ev, .slice P nr C, mp, .int .i64 now, .int .i64 til, .bool begun, .bool whole, .bool dn, .bool stopped] 64 (0, 0)), Ob y (.cells #[.string (t.name), .int .i64 (t.failed), .int .i64 (t.after), .bool t.ans, .bool t.told] 71 (0, 0))] ++ [Old w (fps [Ob g (.cells #[.pointer (some ⟨y, 0, none⟩), .int .i64 ev, .slice P nr C, mp, .int .i64 now, .int .i64 til, .bool begun, .bool whole, .bool dn, .bool stopped] 64 (0, 0)), Ob y (.cells #[.string (t.name), .int .i64 (t.failed), .int .i64 (t.after), .bool t.ans, .bool t.told] 71 (0, 0))])])) ∨ (tellS now n = 0 ∧ e = .returned (.tuple #[.agg #[.pointer (some ⟨y, 0, none⟩), .int .i64 ev], .int .i64 0]) ∧ S w' ([Ob g (.cells #[.pointer none, .int .i64 0, .slice P nr C, mp, .int .i64 n, .int .i64 til, .bool begun, .bool whole, .bool dn, .bool stopped] 64 (0, 0)), Ob y (.cells #[.string (t.name), .int .i64 (t.failed), .int .i64 (t.after), .bool t.ans, .bool ((t.told || decide (ev = 2)))] 71 (0, 0))] ++ [Old w (fps [Ob g (.cells #[.pointer (some ⟨y, 0, none⟩), .int .i64 ev, .slice P nr C, mp, .int .i64 now, .int .i64 til, .bool begun, .bool whole, .bool dn, .bool stopped] 64 (0, 0)), Ob y (.cells #[.string (t.name), .int .i64 (t.failed), .int .i64 (t.after), .bool t.ans, .bool t.told] 71 (0, 0))])])) := by
 have H0 := HS.beginI
 refine enter 46 Try.func35 rfl rfl rfl ?_
 refine g_weak [(0, .pointer (some ⟨g, 0, none⟩)), (1, .int .i64 n)] ⟨rfl, rfl, trivial⟩ ?_
 refine w_s ?_
 refine l_of (s_alloc H0 (wt0 rfl) rfl rfl rfl ze61 ?_)
 intro g1 wq2 H3
 refine w_a ?_
 refine w_e ?_
 refine g_seq ?_
 refine w_s ?_
 refine w_r2 ?_
 refine l_of (s_call (wt0 rfl) (x_call' rfl rfl cl31) (tell_s  _ (H3.takes [1] (by decide))) ?_)
 rintro _ wq4 ⟨rfl, H5⟩
 replace H5 : S wq4 [Ob g (.cells #[.pointer (some ⟨y, 0, none⟩), .int .i64 ev, .slice P nr C, mp, .int .i64 now, .int .i64 til, .bool begun, .bool whole, .bool dn, .bool stopped] 64 (0, 0)), Ob g1 (.cells #[.pointer none, .int .i64 0] 61 (0, 0)), Ob y (.cells #[.string (t.name), .int .i64 (t.failed), .int .i64 (t.after), .bool t.ans, .bool t.told] 71 (0, 0)), Old w (fps [Ob g (.cells #[.pointer (some ⟨y, 0, none⟩), .int .i64 ev, .slice P nr C, mp, .int .i64 now, .int .i64 til, .bool begun, .bool whole, .bool dn, .bool stopped] 64 (0, 0)), Ob y (.cells #[.string (t.name), .int .i64 (t.failed), .int .i64 (t.after), .bool t.ans, .bool t.told] 71 (0, 0))])] := by have h := H3.absorbI [1] H5; exact h
 refine b_ret rfl rfl ?_
 refine w_a ?_
 refine w_e ?_
 refine w_s ?_
 refine w_m ?_
 refine w_b (v := .bool (!decide (((tellS now n) : Int) = 0))) (hb := b_neq) ?_
 refine w_e ?_
 by_cases hb6 : ((tellS now n) : Int) = 0
 ·
  refine g_cond_f rfl (nf hb6) ?_
  refine g_skip ?_
  refine g_then ?_
  refine w_s ?_
  refine w_r3 ?_
  refine w_v (v := .agg #[.pointer (some ⟨y, 0, none⟩), .int .i64 ev]) (x_loadA H5 0 rfl rfl Try.underlying61 rfl sz61 rfl rfl rfl) ?_
  refine l_of (s_alloc H5 (wt0 rfl) rfl rfl rfl ze61 ?_)
  intro g7 wq8 H9
  refine l_of (w_st #[.pointer (some ⟨y, 0, none⟩), .int .i64 ev] H9 0 ?_)
  intro wq10 H11
  refine w_e ?_
  refine g_seq ?_
  refine w_s ?_
  refine w_f 0 ?_
  refine w_1 H11 0 ?_
  refine w_b (v := .bool false) (hb := (b_eqN (r := false) Try.underlying59 rfl)) ?_
  refine w_e ?_
  refine g_weak [(0, .pointer (some ⟨g, 0, none⟩)), (1, .int .i64 n), (4, .pointer (some ⟨g1, 0, none⟩)), (7, .pointer (some ⟨g7, 0, none⟩)), (21, .bool false)] ⟨rfl, rfl, rfl, rfl, rfl, trivial⟩ ?_
  refine g_cond_f rfl rfl ?_
  refine g_skip ?_
  refine g_then ?_
  refine w_s ?_
  refine w_r4 ?_
  refine l_of (w_st #[.pointer (some ⟨y, 0, none⟩), .int .i64 ev, .slice P nr C, mp, .int .i64 n, .int .i64 til, .bool begun, .bool whole, .bool dn, .bool stopped] H11 1 ?_)
  intro wq12 H13
  refine w_e ?_
  refine w_s ?_
  refine w_m ?_
  refine w_v (v := .agg #[.pointer none, .int .i64 0]) (x_build (vs := []) rfl rfl (cells := #[.pointer none, .int .i64 0]) (by kernel_rfl)) ?_
  refine w_r2 ?_
  refine l_of (w_st #[.pointer none, .int .i64 0, .slice P nr C, mp, .int .i64 n, .int .i64 til, .bool begun, .bool whole, .bool dn, .bool stopped] H13 1 ?_)
  intro wq14 H15
  refine w_e ?_
  refine g_seq ?_
  refine g_any [] (fun wx => S wx [Ob g7 (.cells #[.pointer (some ⟨y, 0, none⟩), .int .i64 ev] 61 (0, 0)), Ob y (.cells #[.string (t.name), .int .i64 (t.failed), .int .i64 (t.after), .bool t.ans, .bool t.told] 71 (0, 0))]) [14] (by kernel_rfl) H15 (fun wq16 H17 => ?_)
  have cm1 := H17.mask [true, false, false, true, false]
  refine w_t 0 rfl cm1 (fun _ _ => xf 0) ?_
  refine w_t 1 rfl cm1 (fun _ H => xl H 0) ?_
  refine w_t 2 rfl cm1 (fun _ _ => xf 0) ?_
  refine w_t 3 rfl cm1 (fun _ H => xl H 0) ?_
  refine w_t 4 rfl cm1 (fun _ _ => xn) ?_
  refine w_t 5 rfl cm1 (fun _ _ => xf 4) ?_
  refine w_t 6 rfl cm1 (fun _ H => xl H 1) ?_
  refine w_t 7 rfl cm1 (fun _ _ => xm) ?_
  rcases Bool.eq_false_or_eq_true (t.told) with hb18 | hb18
  ·
   have cm2 := H17.mask [true, false, false, true, false]
   refine w_tn 8 rfl hb18 cm2 ?_
   refine w_tn 9 rfl hb18 cm2 ?_
   refine w_tn 10 rfl hb18 cm2 ?_
   refine w_t (v := .bool true) 11 rfl cm2 (fun _ _ => x_pick_t rfl rfl hb18 rfl) ?_
   refine a_one (i := 12) (by kernel_rfl) rfl ?_
   refine s_val (v := .pointer (some ⟨y, 0, none⟩)) (wt0 rfl) rfl rfl (x_nilCheck rfl rfl) ?_
   refine a_k cm2 ?_
   refine w_t 13 rfl cm2 (fun _ _ => xf 4) ?_
   refine a_one (i := 14) (by kernel_rfl) rfl ?_
   refine w_st #[.string (t.name), .int .i64 (t.failed), .int .i64 (t.after), .bool t.ans, .bool true] H17 3 ?_
   intro wq19 H20
   refine a_kt rfl ?_
   refine a_done (by kernel_rfl) ?_
   refine g_then ?_
   refine g_weak [(4, .pointer (some ⟨g1, 0, none⟩)), (7, .pointer (some ⟨g7, 0, none⟩))] ⟨rfl, rfl, trivial⟩ ?_
   refine w_s ?_
   refine w_v (v := .agg #[.pointer (some ⟨y, 0, none⟩), .int .i64 ev]) (x_loadA H20 0 rfl rfl Try.underlying61 rfl sz61 rfl rfl rfl) ?_
   refine l_of (w_st #[.pointer (some ⟨y, 0, none⟩), .int .i64 ev] H20 2 ?_)
   intro wq21 H22
   refine w_a ?_
   refine w_e ?_
   refine g_ret ?_
   refine fin_ret [.cell 4 61, .tmp 5] [.agg #[.pointer (some ⟨y, 0, none⟩), .int .i64 ev], .int .i64 0] rfl ⟨⟨_, rfl, run_loadA (H22.ob (k := 2) rfl) Try.underlying61 rfl sz61 rfl rfl⟩, rfl, trivial⟩ ?_
   have e1 : (t.told || decide (ev = 2)) = (true) := by simp [hb18]
   exact .inr ⟨hb6, rfl, by rw [e1]; exact H22.takes [1, 3, 4] (by decide)⟩
  ·
   have cm3 := H17.mask [true, false, false, true, false]
   refine w_tg 8 rfl hb18 cm3 (fun _ _ => xf 1) ?_
   refine w_tg 9 rfl hb18 cm3 (fun _ H => xl H 0) ?_
   refine w_tg 10 rfl hb18 cm3 (fun _ _ => x_bin rfl rfl rfl b_eql) ?_
   refine w_t (v := .bool (decide ((ev : Int) = 2))) 11 rfl cm3 (fun _ _ => x_pick_f rfl rfl hb18 rfl) ?_
   refine a_one (i := 12) (by kernel_rfl) rfl ?_
   refine s_val (v := .pointer (some ⟨y, 0, none⟩)) (wt0 rfl) rfl rfl (x_nilCheck rfl rfl) ?_
   refine a_k cm3 ?_
   refine w_t 13 rfl cm3 (fun _ _ => xf 4) ?_
   refine a_one (i := 14) (by kernel_rfl) rfl ?_
   refine w_st #[.string (t.name), .int .i64 (t.failed), .int .i64 (t.after), .bool t.ans, .bool (decide ((ev : Int) = 2))] H17 3 ?_
   intro wq23 H24
   refine a_kt rfl ?_
   refine a_done (by kernel_rfl) ?_
   refine g_then ?_
   refine g_weak [(4, .pointer (some ⟨g1, 0, none⟩)), (7, .pointer (some ⟨g7, 0, none⟩))] ⟨rfl, rfl, trivial⟩ ?_
   refine w_s ?_
   refine w_v (v := .agg #[.pointer (some ⟨y, 0, none⟩), .int .i64 ev]) (x_loadA H24 0 rfl rfl Try.underlying61 rfl sz61 rfl rfl rfl) ?_
   refine l_of (w_st #[.pointer (some ⟨y, 0, none⟩), .int .i64 ev] H24 2 ?_)
   intro wq25 H26
   refine w_a ?_
   refine w_e ?_
   refine g_ret ?_
   refine fin_ret [.cell 4 61, .tmp 5] [.agg #[.pointer (some ⟨y, 0, none⟩), .int .i64 ev], .int .i64 0] rfl ⟨⟨_, rfl, run_loadA (H26.ob (k := 2) rfl) Try.underlying61 rfl sz61 rfl rfl⟩, rfl, trivial⟩ ?_
   have e1 : (t.told || decide (ev = 2)) = (decide ((ev : Int) = 2)) := by simp [hb18]
   exact .inr ⟨hb6, rfl, by rw [e1]; exact H26.takes [1, 3, 4] (by decide)⟩
 ·
  refine g_cond_t rfl (nt hb6) ?_
  refine w_s ?_
  refine w_v (v := .agg #[.pointer none, .int .i64 0]) (x_build (vs := []) rfl rfl (cells := #[.pointer none, .int .i64 0]) (by kernel_rfl)) ?_
  refine w_m ?_
  refine l_of (w_st #[.pointer none, .int .i64 0] H5 1 ?_)
  intro wq27 H28
  refine w_a ?_
  refine w_e ?_
  refine g_ret ?_
  refine g_then_ret ?_
  refine fin_ret [.cell 4 61, .tmp 5] [.agg #[.pointer none, .int .i64 0], .int .i64 ((tellS now n))] rfl ⟨⟨_, rfl, run_loadA (H28.ob (k := 1) rfl) Try.underlying61 rfl sz61 rfl rfl⟩, rfl, trivial⟩ ?_
  exact .inl ⟨hb6, rfl, H28.takes [0, 2, 3] (by decide)⟩
set_option maxRecDepth 20000 in
set_option maxHeartbeats 4000000 in
theorem ended_0 {g nr C : Nat} {P : Option Addr} {mp : Value} {ev now til n : Int} {begun whole dn stopped : Bool}  (w : World) (HS : S w [Ob g (.cells #[.pointer none, .int .i64 ev, .slice P nr C, mp, .int .i64 now, .int .i64 til, .bool begun, .bool whole, .bool dn, .bool stopped] 64 (0, 0))]) : Calls Try.prog 35 #[.pointer (some ⟨g, 0, none⟩), .int .i64 n] w fun e w' => e = .returned (.tuple #[.agg #[.pointer none, .int .i64 0], .int .i64 (if tellS now n = 0 then 8 else tellS now n)]) ∧ S w' ([Ob g (.cells #[.pointer none, .int .i64 ev, .slice P nr C, mp, .int .i64 now, .int .i64 til, .bool begun, .bool whole, .bool dn, .bool stopped] 64 (0, 0))] ++ [Old w (fps [Ob g (.cells #[.pointer none, .int .i64 ev, .slice P nr C, mp, .int .i64 now, .int .i64 til, .bool begun, .bool whole, .bool dn, .bool stopped] 64 (0, 0))])]) := by
 have H0 := HS.beginI
 refine enter 46 Try.func35 rfl rfl rfl ?_
 refine g_weak [(0, .pointer (some ⟨g, 0, none⟩)), (1, .int .i64 n)] ⟨rfl, rfl, trivial⟩ ?_
 refine w_s ?_
 refine l_of (s_alloc H0 (wt0 rfl) rfl rfl rfl ze61 ?_)
 intro g1 wq2 H3
 refine w_a ?_
 refine w_e ?_
 refine g_seq ?_
 refine w_s ?_
 refine w_r2 ?_
 refine l_of (s_call (wt0 rfl) (x_call' rfl rfl cl31) (tell_s  _ (H3.takes [1] (by decide))) ?_)
 rintro _ wq4 ⟨rfl, H5⟩
 replace H5 : S wq4 [Ob g (.cells #[.pointer none, .int .i64 ev, .slice P nr C, mp, .int .i64 now, .int .i64 til, .bool begun, .bool whole, .bool dn, .bool stopped] 64 (0, 0)), Ob g1 (.cells #[.pointer none, .int .i64 0] 61 (0, 0)), Old w (fps [Ob g (.cells #[.pointer none, .int .i64 ev, .slice P nr C, mp, .int .i64 now, .int .i64 til, .bool begun, .bool whole, .bool dn, .bool stopped] 64 (0, 0))])] := by have h := H3.absorbI [1] H5; exact h
 refine b_ret rfl rfl ?_
 refine w_a ?_
 refine w_e ?_
 refine w_s ?_
 refine w_m ?_
 refine w_b (v := .bool (!decide (((tellS now n) : Int) = 0))) (hb := b_neq) ?_
 refine w_e ?_
 by_cases hb6 : ((tellS now n) : Int) = 0
 ·
  refine g_cond_f rfl (nf hb6) ?_
  refine g_skip ?_
  refine g_then ?_
  refine w_s ?_
  refine w_r3 ?_
  refine w_v (v := .agg #[.pointer none, .int .i64 ev]) (x_loadA H5 0 rfl rfl Try.underlying61 rfl sz61 rfl rfl rfl) ?_
  refine l_of (s_alloc H5 (wt0 rfl) rfl rfl rfl ze61 ?_)
  intro g7 wq8 H9
  refine l_of (w_st #[.pointer none, .int .i64 ev] H9 0 ?_)
  intro wq10 H11
  refine w_e ?_
  refine g_seq ?_
  refine w_s ?_
  refine w_f 0 ?_
  refine w_1 H11 0 ?_
  refine w_b (v := .bool true) (hb := (b_eqN (r := true) Try.underlying59 rfl)) ?_
  refine w_e ?_
  refine g_weak [(0, .pointer (some ⟨g, 0, none⟩)), (1, .int .i64 n), (4, .pointer (some ⟨g1, 0, none⟩)), (7, .pointer (some ⟨g7, 0, none⟩)), (21, .bool true)] ⟨rfl, rfl, rfl, rfl, rfl, trivial⟩ ?_
  refine g_cond_t rfl rfl ?_
  refine w_s ?_
  refine w_v (v := .agg #[.pointer none, .int .i64 0]) (x_build (vs := []) rfl rfl (cells := #[.pointer none, .int .i64 0]) (by kernel_rfl)) ?_
  refine l_of (w_st #[.pointer none, .int .i64 0] H11 2 ?_)
  intro wq12 H13
  refine w_a ?_
  refine w_e ?_
  refine g_ret ?_
  refine g_then_ret ?_
  refine fin_ret [.cell 4 61, .tmp 5] [.agg #[.pointer none, .int .i64 0], .int .i64 8] rfl ⟨⟨_, rfl, run_loadA (H13.ob (k := 2) rfl) Try.underlying61 rfl sz61 rfl rfl⟩, rfl, trivial⟩ ?_
  exact ⟨by rw [if_pos hb6]; rfl, H13.takes [1, 3] (by decide)⟩
 ·
  refine g_cond_t rfl (nt hb6) ?_
  refine w_s ?_
  refine w_v (v := .agg #[.pointer none, .int .i64 0]) (x_build (vs := []) rfl rfl (cells := #[.pointer none, .int .i64 0]) (by kernel_rfl)) ?_
  refine w_m ?_
  refine l_of (w_st #[.pointer none, .int .i64 0] H5 1 ?_)
  intro wq14 H15
  refine w_a ?_
  refine w_e ?_
  refine g_ret ?_
  refine g_then_ret ?_
  refine fin_ret [.cell 4 61, .tmp 5] [.agg #[.pointer none, .int .i64 0], .int .i64 ((tellS now n))] rfl ⟨⟨_, rfl, run_loadA (H15.ob (k := 1) rfl) Try.underlying61 rfl sz61 rfl rfl⟩, rfl, trivial⟩ ?_
  exact ⟨by rw [if_neg hb6]; rfl, H15.takes [0, 2] (by decide)⟩
theorem tellS_0 {a b : Int} (h : tellS a b = 0) : a ≤ b ∧ b ≤ 1000000000 := by
  unfold tellS at h
  split at h
  · cases h
  · omega
set_option maxRecDepth 20000 in
set_option maxHeartbeats 4000000 in
theorem fail_s {g nr C y : Nat} {P : Option Addr} {mp : Value} {ev now til n : Int} {begun whole dn stopped : Bool} {t : Tk} (h0 : 0 ≤ t.failed) (h1 : t.failed ≤ 100000) (h2 : 0 ≤ now)  (w : World) (HS : S w [Ob g (.cells #[.pointer (some ⟨y, 0, none⟩), .int .i64 ev, .slice P nr C, mp, .int .i64 now, .int .i64 til, .bool begun, .bool whole, .bool dn, .bool stopped] 64 (0, 0)), Ob y (.cells #[.string (t.name), .int .i64 (t.failed), .int .i64 (t.after), .bool t.ans, .bool t.told] 71 (0, 0))]) : Calls Try.prog 14 #[.pointer (some ⟨g, 0, none⟩), .int .i64 n] w fun e w' => (tellS now n ≠ 0 ∧ e = .returned (.int .i64 (tellS now n)) ∧ S w' ([Ob g (.cells #[.pointer (some ⟨y, 0, none⟩), .int .i64 ev, .slice P nr C, mp, .int .i64 now, .int .i64 til, .bool begun, .bool whole, .bool dn, .bool stopped] 64 (0, 0)), Ob y (.cells #[.string (t.name), .int .i64 (t.failed), .int .i64 (t.after), .bool t.ans, .bool t.told] 71 (0, 0))] ++ [Old w (fps [Ob g (.cells #[.pointer (some ⟨y, 0, none⟩), .int .i64 ev, .slice P nr C, mp, .int .i64 now, .int .i64 til, .bool begun, .bool whole, .bool dn, .bool stopped] 64 (0, 0)), Ob y (.cells #[.string (t.name), .int .i64 (t.failed), .int .i64 (t.after), .bool t.ans, .bool t.told] 71 (0, 0))])])) ∨ (tellS now n = 0 ∧ e = .returned (.int .i64 0) ∧ S w' ([Ob g (.cells #[.pointer none, .int .i64 0, .slice P nr C, mp, .int .i64 n, .int .i64 til, .bool begun, .bool whole, .bool dn, .bool stopped] 64 (0, 0)), Ob y (.cells #[.string (t.name), .int .i64 ((t.failed + 1)), .int .i64 ((n + waitS (t.failed + 1))), .bool t.ans, .bool ((t.told || decide (ev = 2)))] 71 (0, 0))] ++ [Old w (fps [Ob g (.cells #[.pointer (some ⟨y, 0, none⟩), .int .i64 ev, .slice P nr C, mp, .int .i64 now, .int .i64 til, .bool begun, .bool whole, .bool dn, .bool stopped] 64 (0, 0)), Ob y (.cells #[.string (t.name), .int .i64 (t.failed), .int .i64 (t.after), .bool t.ans, .bool t.told] 71 (0, 0))])])) := by
 have H0 := HS.beginI
 refine enter 36 Try.func14 rfl rfl rfl ?_
 refine g_weak [(0, .pointer (some ⟨g, 0, none⟩)), (1, .int .i64 n)] ⟨rfl, rfl, trivial⟩ ?_
 refine w_s ?_
 refine w_a ?_
 refine w_e ?_
 refine w_s ?_
 refine w_r2 ?_
 refine l_of (s_call (wt0 rfl) (x_call' rfl rfl cl35) (ended_s (t := t) _ (H0.takes [0, 1] (by decide))) ?_)
 rintro ee3 wq1 hor4
 rcases hor4 with ⟨hl1, rfl, H2⟩ | ⟨hl0, rfl, H2⟩
 ·
  replace H2 : S wq1 [Ob g (.cells #[.pointer (some ⟨y, 0, none⟩), .int .i64 ev, .slice P nr C, mp, .int .i64 now, .int .i64 til, .bool begun, .bool whole, .bool dn, .bool stopped] 64 (0, 0)), Ob y (.cells #[.string (t.name), .int .i64 (t.failed), .int .i64 (t.after), .bool t.ans, .bool t.told] 71 (0, 0)), Old w (fps [Ob g (.cells #[.pointer (some ⟨y, 0, none⟩), .int .i64 ev, .slice P nr C, mp, .int .i64 now, .int .i64 til, .bool begun, .bool whole, .bool dn, .bool stopped] 64 (0, 0)), Ob y (.cells #[.string (t.name), .int .i64 (t.failed), .int .i64 (t.after), .bool t.ans, .bool t.told] 71 (0, 0))])] := by have h := H0.absorbI [0, 1] H2; exact h
  refine b_ret rfl rfl ?_
  refine w_r3 ?_
  refine l_of (s_alloc H2 (wt0 rfl) rfl rfl rfl ze61 ?_)
  intro g5 wq6 H7
  refine l_of (w_st #[.pointer none, .int .i64 0] H7 0 ?_)
  intro wq8 H9
  refine w_a ?_
  refine w_e ?_
  refine g_seq ?_
  refine w_s ?_
  refine w_m ?_
  refine w_b ?_
  refine w_e ?_
  refine g_cond_f rfl (decide_eq_false hl1) ?_
  refine g_skip ?_
  refine g_then ?_
  refine g_weak [(6, .int .i64 ((tellS now n)))] ⟨rfl, trivial⟩ ?_
  refine w_s ?_
  refine w_r2 ?_
  refine w_e ?_
  refine g_ret ?_
  refine fin_ret [.tmp 4] [.int .i64 ((tellS now n))] rfl ⟨rfl, trivial⟩ ?_
  exact .inl ⟨hl1, rfl, H9.takes [1, 2, 3] (by decide)⟩
 ·
  replace H2 : S wq1 [Ob g (.cells #[.pointer none, .int .i64 0, .slice P nr C, mp, .int .i64 n, .int .i64 til, .bool begun, .bool whole, .bool dn, .bool stopped] 64 (0, 0)), Ob y (.cells #[.string (t.name), .int .i64 (t.failed), .int .i64 (t.after), .bool t.ans, .bool ((t.told || decide (ev = 2)))] 71 (0, 0)), Old w (fps [Ob g (.cells #[.pointer (some ⟨y, 0, none⟩), .int .i64 ev, .slice P nr C, mp, .int .i64 now, .int .i64 til, .bool begun, .bool whole, .bool dn, .bool stopped] 64 (0, 0)), Ob y (.cells #[.string (t.name), .int .i64 (t.failed), .int .i64 (t.after), .bool t.ans, .bool t.told] 71 (0, 0))])] := by have h := H0.absorbI [0, 1] H2; exact h
  refine b_ret rfl rfl ?_
  refine w_r3 ?_
  refine l_of (s_alloc H2 (wt0 rfl) rfl rfl rfl ze61 ?_)
  intro g10 wq11 H12
  refine l_of (w_st #[.pointer (some ⟨y, 0, none⟩), .int .i64 ev] H12 0 ?_)
  intro wq13 H14
  refine w_a ?_
  refine w_e ?_
  refine g_seq ?_
  refine w_s ?_
  refine w_m ?_
  refine w_b ?_
  refine w_e ?_
  refine g_cond_t rfl (decide_eq_true rfl) ?_
  refine w_s ?_
  refine w_f 0 ?_
  refine w_1 H14 0 ?_
  refine w_r2 ?_
  refine w_1 H14 2 ?_
  refine w_b (v := .int .i64 (t.failed + 1)) (hb := (b_add (w64 (by omega)))) ?_
  refine w_r2 ?_
  refine l_of (w_st #[.string (t.name), .int .i64 (t.failed + 1), .int .i64 (t.after), .bool t.ans, .bool ((t.told || decide (ev = 2)))] H14 2 ?_)
  intro wq15 H16
  refine w_e ?_
  refine g_weak [(1, .int .i64 n), (5, .pointer (some ⟨g10, 0, none⟩)), (6, .int .i64 0)] ⟨rfl, rfl, rfl, trivial⟩ ?_
  refine g_any [] (fun wx => S wx [Ob g10 (.cells #[.pointer (some ⟨y, 0, none⟩), .int .i64 ev] 61 (0, 0)), Ob y (.cells #[.string (t.name), .int .i64 (t.failed + 1), .int .i64 (t.after), .bool t.ans, .bool ((t.told || decide (ev = 2)))] 71 (0, 0))]) [12] (by kernel_rfl) H16 (fun wq17 H18 => ?_)
  have cm4 := H18.mask [true, false, true, false]
  refine w_t 0 rfl cm4 (fun _ _ => xf 0) ?_
  refine w_t 1 rfl cm4 (fun _ H => xl H 0) ?_
  refine w_t 2 rfl cm4 (fun _ _ => xm) ?_
  refine w_t 3 rfl cm4 (fun _ _ => xf 0) ?_
  refine w_t 4 rfl cm4 (fun _ H => xl H 0) ?_
  refine w_t 5 rfl cm4 (fun _ _ => xn) ?_
  refine w_t 6 rfl cm4 (fun _ _ => xf 1) ?_
  refine w_t 7 rfl cm4 (fun _ H => xl H 1) ?_
  refine a_one (i := 8) (by kernel_rfl) rfl ?_
  have hw2 := waitS_ge (t.failed + 1) (by omega)
  have hl2 := tellS_0 hl0
  refine s_call0 H18 (wt0 rfl) (x_call' rfl rfl cl36) (wait_t _ (by omega) (by omega) _) rfl rfl ?_
  intro wq19 H20
  have cm5 := H20.mask [true, false, true, false]
  refine a_k cm5 ?_
  refine w_t (v := .int .i64 (n + (waitS (t.failed + 1)))) 9 rfl cm5 (fun _ _ => x_bin rfl rfl rfl (b_add (w64 (by omega)))) ?_
  refine a_one (i := 10) (by kernel_rfl) rfl ?_
  refine s_val (v := .pointer (some ⟨y, 0, none⟩)) (wt0 rfl) rfl rfl (x_nilCheck rfl rfl) ?_
  refine a_k cm5 ?_
  refine w_t 11 rfl cm5 (fun _ _ => xf 2) ?_
  refine a_one (i := 12) (by kernel_rfl) rfl ?_
  refine w_st #[.string (t.name), .int .i64 (t.failed + 1), .int .i64 (n + (waitS (t.failed + 1))), .bool t.ans, .bool ((t.told || decide (ev = 2)))] H20 2 ?_
  intro wq21 H22
  refine a_kt rfl ?_
  refine a_done (by kernel_rfl) ?_
  refine g_then ?_
  refine g_weak [(6, .int .i64 0)] ⟨rfl, trivial⟩ ?_
  refine w_s ?_
  refine w_r2 ?_
  refine w_e ?_
  refine g_ret ?_
  refine fin_ret [.tmp 4] [.int .i64 0] rfl ⟨rfl, trivial⟩ ?_
  exact .inr ⟨hl0, rfl, H22.takes [1, 2, 3] (by decide)⟩
set_option maxRecDepth 20000 in
set_option maxHeartbeats 4000000 in
theorem fail_0 {g nr C : Nat} {P : Option Addr} {mp : Value} {ev now til n : Int} {begun whole dn stopped : Bool}  (w : World) (HS : S w [Ob g (.cells #[.pointer none, .int .i64 ev, .slice P nr C, mp, .int .i64 now, .int .i64 til, .bool begun, .bool whole, .bool dn, .bool stopped] 64 (0, 0))]) : Calls Try.prog 14 #[.pointer (some ⟨g, 0, none⟩), .int .i64 n] w fun e w' => e = .returned (.int .i64 (if tellS now n = 0 then 8 else tellS now n)) ∧ S w' ([Ob g (.cells #[.pointer none, .int .i64 ev, .slice P nr C, mp, .int .i64 now, .int .i64 til, .bool begun, .bool whole, .bool dn, .bool stopped] 64 (0, 0))] ++ [Old w (fps [Ob g (.cells #[.pointer none, .int .i64 ev, .slice P nr C, mp, .int .i64 now, .int .i64 til, .bool begun, .bool whole, .bool dn, .bool stopped] 64 (0, 0))])]) := by
 have H0 := HS.beginI
 refine enter 36 Try.func14 rfl rfl rfl ?_
 refine g_weak [(0, .pointer (some ⟨g, 0, none⟩)), (1, .int .i64 n)] ⟨rfl, rfl, trivial⟩ ?_
 refine w_s ?_
 refine w_a ?_
 refine w_e ?_
 refine w_s ?_
 refine w_r2 ?_
 refine l_of (s_call (wt0 rfl) (x_call' rfl rfl cl35) (ended_0 _ (H0.takes [0] (by decide))) ?_)
 rintro ee3 wq1 hor4
 rcases hor4 with ⟨rfl, H2⟩
 replace H2 : S wq1 [Ob g (.cells #[.pointer none, .int .i64 ev, .slice P nr C, mp, .int .i64 now, .int .i64 til, .bool begun, .bool whole, .bool dn, .bool stopped] 64 (0, 0)), Old w (fps [Ob g (.cells #[.pointer none, .int .i64 ev, .slice P nr C, mp, .int .i64 now, .int .i64 til, .bool begun, .bool whole, .bool dn, .bool stopped] 64 (0, 0))])] := by have h := H0.absorbI [0] H2; exact h
 refine b_ret rfl rfl ?_
 refine w_r3 ?_
 refine l_of (s_alloc H2 (wt0 rfl) rfl rfl rfl ze61 ?_)
 intro g5 wq6 H7
 refine l_of (w_st #[.pointer none, .int .i64 0] H7 0 ?_)
 intro wq8 H9
 refine w_a ?_
 refine w_e ?_
 refine g_seq ?_
 refine w_s ?_
 refine w_m ?_
 refine w_b ?_
 refine w_e ?_
 refine g_cond_f rfl (decide_eq_false (by split <;> omega)) ?_
 refine g_skip ?_
 refine g_then ?_
 refine g_weak [(6, .int .i64 ((if tellS now n = 0 then 8 else tellS now n)))] ⟨rfl, trivial⟩ ?_
 refine w_s ?_
 refine w_r2 ?_
 refine w_e ?_
 refine g_ret ?_
 refine fin_ret [.tmp 4] [.int .i64 ((if tellS now n = 0 then 8 else tellS now n))] rfl ⟨rfl, trivial⟩ ?_
 exact ⟨rfl, H9.takes [1, 2] (by decide)⟩
end Go.Proofs.Ytibdlnjnomikjaa
