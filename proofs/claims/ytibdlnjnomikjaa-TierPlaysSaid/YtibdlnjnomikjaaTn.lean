import Derived.Test.YtibdlnjnomikjaaFk
import Derived.Test.YtibdlnjnomikjaaTm
set_option linter.unusedSimpArgs false
set_option linter.unusedVariables false
namespace Go.Proofs.Ytibdlnjnomikjaa
open Go.RowKit

theorem cl34 : callable Try.prog 34 = true := by kernel_rfl
theorem cl58 : callable Try.prog 58 = true := by kernel_rfl
theorem cl73 : callable Try.prog 73 = true := by kernel_rfl
theorem cl74 : callable Try.prog 74 = true := by kernel_rfl
theorem cl75 : callable Try.prog 75 = true := by kernel_rfl
theorem fo64_3 : foO Try.prog 64 3 = some 4 := by kernel_rfl
theorem fo64_4 : foO Try.prog 64 4 = some 5 := by kernel_rfl
theorem fo64_5 : foO Try.prog 64 5 = some 6 := by kernel_rfl
theorem fo64_7 : foO Try.prog 64 7 = some 8 := by kernel_rfl
theorem fo64_8 : foO Try.prog 64 8 = some 9 := by kernel_rfl
theorem fo71_2 : foO Try.prog 71 2 = some 2 := by kernel_rfl
theorem fo71_3 : foO Try.prog 71 3 = some 3 := by kernel_rfl
theorem fo71_4 : foO Try.prog 71 4 = some 4 := by kernel_rfl
theorem sz94 : szO Try.prog 94 = some 1 := by kernel_rfl
theorem sz95 : szO Try.prog 95 = some 4 := by kernel_rfl
theorem ze95 : zeO Try.prog 95 = some (.agg #[.nilFunc, .nilFunc, .nilFunc, .nilFunc]) := by kernel_rfl
set_option maxRecDepth 20000 in
set_option maxHeartbeats 4000000 in
theorem events_s  (w : World) : Calls Try.prog 58 #[] w fun e w' => e = .returned (.agg #[.func (.func 72) #[] #[], .func (.func 73) #[] #[], .func (.func 74) #[] #[], .func (.func 75) #[] #[]]) ∧ S w' [Old w no] := by
 have H0 := S.old w
 refine enter 2 Try.func58 rfl rfl rfl ?_
 refine g_weak [] trivial ?_
 refine w_s ?_
 refine l_of (s_alloc H0 (wt0 rfl) rfl rfl rfl ze95 ?_)
 intro g1 wq2 H3
 refine w_e ?_
 refine w_s ?_
 refine w_v (v := .agg #[.func (.func 72) #[] #[], .func (.func 73) #[] #[], .func (.func 74) #[] #[], .func (.func 75) #[] #[]]) (x_build (vs := [.func (.func 72) #[] #[], .func (.func 73) #[] #[], .func (.func 74) #[] #[], .func (.func 75) #[] #[]]) rfl rfl (cells := #[.func (.func 72) #[] #[], .func (.func 73) #[] #[], .func (.func 74) #[] #[], .func (.func 75) #[] #[]]) (by kernel_rfl)) ?_
 refine l_of (w_st #[.func (.func 72) #[] #[], .func (.func 73) #[] #[], .func (.func 74) #[] #[], .func (.func 75) #[] #[]] H3 0 ?_)
 intro wq4 H5
 refine w_e ?_
 refine g_ret ?_
 refine fin_ret [.cell 0 95] [.agg #[.func (.func 72) #[] #[], .func (.func 73) #[] #[], .func (.func 74) #[] #[], .func (.func 75) #[] #[]]] rfl ⟨⟨_, rfl, run_loadA (H5.ob (k := 0) rfl) Try.underlying95 rfl sz95 rfl rfl⟩, trivial⟩ ?_
 exact ⟨rfl, H5.mask [false, true]⟩
set_option maxRecDepth 20000 in
set_option maxHeartbeats 4000000 in
theorem ev1_s {g nr C : Nat} {P : Option Addr} {cu mp : Value} {ev now til : Int} {begun whole dn stopped : Bool}  (w : World) (HS : S w [Ob g (.cells #[cu, .int .i64 ev, .slice P nr C, mp, .int .i64 now, .int .i64 til, .bool begun, .bool whole, .bool dn, .bool stopped] 64 (0, 0))]) : Calls Try.prog 73 #[.pointer (some ⟨g, 0, none⟩)] w fun e w' => e = .returned (.bool (!begun)) ∧ S w' ([Ob g (.cells #[cu, .int .i64 ev, .slice P nr C, mp, .int .i64 now, .int .i64 til, .bool begun, .bool whole, .bool dn, .bool stopped] 64 (0, 0))] ++ [Old w (fps [Ob g (.cells #[cu, .int .i64 ev, .slice P nr C, mp, .int .i64 now, .int .i64 til, .bool begun, .bool whole, .bool dn, .bool stopped] 64 (0, 0))])]) := by
 have H0 := HS.beginI
 refine enter 8 Try.func73 rfl rfl rfl ?_
 refine g_weak [(0, .pointer (some ⟨g, 0, none⟩))] ⟨rfl, trivial⟩ ?_
 refine w_s ?_
 refine w_a ?_
 refine w_e ?_
 refine w_s ?_
 refine w_r3 ?_
 refine w_1 H0 0 ?_
 refine w_v (v := .bool (!begun)) (x_not (b := begun) rfl rfl) ?_
 refine w_a ?_
 refine w_e ?_
 refine g_ret ?_
 refine fin_ret [.tmp 2] [.bool (!begun)] rfl ⟨rfl, trivial⟩ ?_
 exact ⟨rfl, H0⟩
set_option maxRecDepth 20000 in
set_option maxHeartbeats 4000000 in
theorem ev2_s {g nr C : Nat} {P : Option Addr} {cu mp : Value} {ev now til : Int} {begun whole dn stopped : Bool}  (w : World) (HS : S w [Ob g (.cells #[cu, .int .i64 ev, .slice P nr C, mp, .int .i64 now, .int .i64 til, .bool begun, .bool whole, .bool dn, .bool stopped] 64 (0, 0))]) : Calls Try.prog 74 #[.pointer (some ⟨g, 0, none⟩)] w fun e w' => e = .returned (.bool (stopped)) ∧ S w' ([Ob g (.cells #[cu, .int .i64 ev, .slice P nr C, mp, .int .i64 now, .int .i64 til, .bool begun, .bool whole, .bool dn, .bool stopped] 64 (0, 0))] ++ [Old w (fps [Ob g (.cells #[cu, .int .i64 ev, .slice P nr C, mp, .int .i64 now, .int .i64 til, .bool begun, .bool whole, .bool dn, .bool stopped] 64 (0, 0))])]) := by
 have H0 := HS.beginI
 refine enter 7 Try.func74 rfl rfl rfl ?_
 refine g_weak [(0, .pointer (some ⟨g, 0, none⟩))] ⟨rfl, trivial⟩ ?_
 refine w_s ?_
 refine w_a ?_
 refine w_e ?_
 refine w_s ?_
 refine w_r3 ?_
 refine w_1 H0 0 ?_
 refine w_a ?_
 refine w_e ?_
 refine g_ret ?_
 refine fin_ret [.tmp 2] [.bool stopped] rfl ⟨rfl, trivial⟩ ?_
 exact ⟨rfl, H0⟩
set_option maxRecDepth 20000 in
set_option maxHeartbeats 4000000 in
theorem ev3_s {g nr C : Nat} {P : Option Addr} {cu mp : Value} {ev now til : Int} {begun whole dn stopped : Bool}  (w : World) (HS : S w [Ob g (.cells #[cu, .int .i64 ev, .slice P nr C, mp, .int .i64 now, .int .i64 til, .bool begun, .bool whole, .bool dn, .bool stopped] 64 (0, 0))]) : Calls Try.prog 75 #[.pointer (some ⟨g, 0, none⟩)] w fun e w' => e = .returned (.bool ((dn && begun))) ∧ S w' ([Ob g (.cells #[cu, .int .i64 ev, .slice P nr C, mp, .int .i64 now, .int .i64 til, .bool begun, .bool whole, .bool dn, .bool stopped] 64 (0, 0))] ++ [Old w (fps [Ob g (.cells #[cu, .int .i64 ev, .slice P nr C, mp, .int .i64 now, .int .i64 til, .bool begun, .bool whole, .bool dn, .bool stopped] 64 (0, 0))])]) := by
 have H0 := HS.beginI
 refine enter 13 Try.func75 rfl rfl rfl ?_
 refine g_weak [(0, .pointer (some ⟨g, 0, none⟩))] ⟨rfl, trivial⟩ ?_
 refine w_s ?_
 refine w_a ?_
 refine w_e ?_
 refine w_s ?_
 refine w_r3 ?_
 refine w_1 H0 0 ?_
 refine w_m ?_
 rcases Bool.eq_false_or_eq_true (dn) with hb1 | hb1
 ·
  refine w_g hb1 xm ?_
  refine w_g hb1 xn ?_
  refine w_g hb1 (xf 6) ?_
  refine w_g hb1 (xl H0 0) ?_
  refine w_v (v := .bool begun) (x_pick_t rfl rfl hb1 rfl) ?_
  refine w_a ?_
  refine w_e ?_
  refine g_ret ?_
  refine fin_ret [.tmp 2] [.bool begun] rfl ⟨rfl, trivial⟩ ?_
  exact ⟨(by rw [hb1]; rfl), H0⟩
 ·
  refine w_n hb1 ?_
  refine w_n hb1 ?_
  refine w_n hb1 ?_
  refine w_n hb1 ?_
  refine w_v (v := .bool false) (x_pick_f rfl rfl hb1 rfl) ?_
  refine w_a ?_
  refine w_e ?_
  refine g_ret ?_
  refine fin_ret [.tmp 2] [.bool false] rfl ⟨rfl, trivial⟩ ?_
  exact ⟨(by rw [hb1]; rfl), H0⟩
set_option maxRecDepth 20000 in
set_option maxHeartbeats 4000000 in
theorem event_s {g nr C : Nat} {P : Option Addr} {cu mp : Value} {ev now til : Int} {begun whole dn stopped : Bool}  (w : World) (HS : S w [Ob g (.cells #[cu, .int .i64 ev, .slice P nr C, mp, .int .i64 now, .int .i64 til, .bool begun, .bool whole, .bool dn, .bool stopped] 64 (0, 0))]) : Calls Try.prog 34 #[.pointer (some ⟨g, 0, none⟩)] w fun e w' => e = .returned (.int .i64 (evS begun dn stopped)) ∧ S w' ([Ob g (.cells #[cu, .int .i64 ev, .slice P nr C, mp, .int .i64 now, .int .i64 til, .bool begun, .bool whole, .bool dn, .bool stopped] 64 (0, 0))] ++ [Old w (fps [Ob g (.cells #[cu, .int .i64 ev, .slice P nr C, mp, .int .i64 now, .int .i64 til, .bool begun, .bool whole, .bool dn, .bool stopped] 64 (0, 0))])]) := by
 have H0 := HS.beginI
 refine enter 16 Try.func34 rfl rfl rfl ?_
 refine g_weak [(0, .pointer (some ⟨g, 0, none⟩))] ⟨rfl, trivial⟩ ?_
 refine w_s ?_
 refine w_a ?_
 refine w_e ?_
 refine g_seq ?_
 refine w_s ?_
 refine w_v (v := .agg #[.int .i64 2, .int .i64 1, .int .i64 3]) (x_build (vs := [.int .i64 2, .int .i64 1, .int .i64 3]) rfl rfl (cells := #[.int .i64 2, .int .i64 1, .int .i64 3]) (by kernel_rfl)) ?_
 refine w_m ?_
 refine w_e ?_
 refine g_block ?_
 refine g_rounds 4 ?_
 refine g_roundU ?_
 refine w_s ?_
 refine w_b ?_
 refine w_e ?_
 refine g_seq ?_
 refine g_cond_t rfl (by decide) ?_
 refine g_skip ?_
 refine g_then ?_
 refine g_seq ?_
 refine g_block ?_
 refine w_s ?_
 refine w_v (v := .int .i64 2) (x_indexW 0 rfl rfl rfl Try.underlying93 sz3 Try.underlying3 rfl ⟨by decide, by decide⟩ rfl) ?_
 refine w_a ?_
 refine w_e ?_
 refine w_s ?_
 refine l_of (s_call0 H0 (wt0 rfl) (x_call' rfl rfl cl58) (events_s _) rfl rfl ?_)
 intro wq1 H2
 refine w_m ?_
 refine w_v (v := .func (.func 74) #[] #[]) (x_indexW 2 rfl rfl rfl Try.underlying95 sz94 Try.underlying94 rfl ⟨by decide, by decide⟩ rfl) ?_
 refine w_m ?_
 refine l_of (s_call (wt0 rfl) (x_call rfl rfl rfl cl74) (ev2_s  _ (H2.takes [0] (by decide))) ?_)
 rintro _ wq3 ⟨rfl, H4⟩
 replace H4 : S wq3 [Ob g (.cells #[cu, .int .i64 ev, .slice P nr C, mp, .int .i64 now, .int .i64 til, .bool begun, .bool whole, .bool dn, .bool stopped] 64 (0, 0)), Old w (fps [Ob g (.cells #[cu, .int .i64 ev, .slice P nr C, mp, .int .i64 now, .int .i64 til, .bool begun, .bool whole, .bool dn, .bool stopped] 64 (0, 0))])] := by have h := H2.absorbI [0] H4; exact h
 refine b_ret rfl rfl ?_
 refine w_e ?_
 rcases Bool.eq_false_or_eq_true (stopped) with hb5 | hb5
 ·
  refine g_cond_t rfl hb5 ?_
  refine w_s ?_
  refine w_r2 ?_
  refine w_e ?_
  refine g_weak [(2, .int .i64 2)] ⟨rfl, trivial⟩ ?_
  refine g_ret ?_
  refine g_in_ret ?_
  refine g_then_ret ?_
  refine g_then_ret ?_
  refine g_in_ret ?_
  refine g_then_ret ?_
  refine fin_ret [.tmp 2] [.int .i64 2] rfl ⟨rfl, trivial⟩ ?_
  exact ⟨by unfold evS; simp_all [tupled], H4⟩
 ·
  refine g_cond_f rfl hb5 ?_
  refine g_skip ?_
  refine g_in ?_
  refine g_then ?_
  refine g_region ?_
  refine w_b (v := .int .i64 1) (hb := (b_add (r := 1) (by decide))) ?_
  refine w_m ?_
  refine w_e ?_
  refine g_roundU ?_
  refine w_s ?_
  refine w_b ?_
  refine w_e ?_
  refine g_seq ?_
  refine g_cond_t rfl (by decide) ?_
  refine g_skip ?_
  refine g_then ?_
  refine g_seq ?_
  refine g_block ?_
  refine w_s ?_
  refine w_v (v := .int .i64 1) (x_indexW 1 rfl rfl rfl Try.underlying93 sz3 Try.underlying3 rfl ⟨by decide, by decide⟩ rfl) ?_
  refine w_a ?_
  refine w_e ?_
  refine w_s ?_
  refine l_of (s_call0 H4 (wt0 rfl) (x_call' rfl rfl cl58) (events_s _) rfl rfl ?_)
  intro wq6 H7
  refine w_m ?_
  refine w_v (v := .func (.func 73) #[] #[]) (x_indexW 1 rfl rfl rfl Try.underlying95 sz94 Try.underlying94 rfl ⟨by decide, by decide⟩ rfl) ?_
  refine w_m ?_
  refine l_of (s_call (wt0 rfl) (x_call rfl rfl rfl cl73) (ev1_s  _ (H7.takes [0] (by decide))) ?_)
  rintro _ wq8 ⟨rfl, H9⟩
  replace H9 : S wq8 [Ob g (.cells #[cu, .int .i64 ev, .slice P nr C, mp, .int .i64 now, .int .i64 til, .bool begun, .bool whole, .bool dn, .bool stopped] 64 (0, 0)), Old w (fps [Ob g (.cells #[cu, .int .i64 ev, .slice P nr C, mp, .int .i64 now, .int .i64 til, .bool begun, .bool whole, .bool dn, .bool stopped] 64 (0, 0))])] := by have h := H7.absorbI [0] H9; exact h
  refine b_ret rfl rfl ?_
  refine w_e ?_
  rcases Bool.eq_false_or_eq_true (begun) with hb10 | hb10
  ·
   refine g_cond_f rfl (neg_of hb10) ?_
   refine g_skip ?_
   refine g_in ?_
   refine g_then ?_
   refine g_region ?_
   refine w_b (v := .int .i64 2) (hb := (b_add (r := 2) (by decide))) ?_
   refine w_m ?_
   refine w_e ?_
   refine g_roundU ?_
   refine w_s ?_
   refine w_b ?_
   refine w_e ?_
   refine g_seq ?_
   refine g_cond_t rfl (by decide) ?_
   refine g_skip ?_
   refine g_then ?_
   refine g_seq ?_
   refine g_block ?_
   refine w_s ?_
   refine w_v (v := .int .i64 3) (x_indexW 2 rfl rfl rfl Try.underlying93 sz3 Try.underlying3 rfl ⟨by decide, by decide⟩ rfl) ?_
   refine w_a ?_
   refine w_e ?_
   refine w_s ?_
   refine l_of (s_call0 H9 (wt0 rfl) (x_call' rfl rfl cl58) (events_s _) rfl rfl ?_)
   intro wq11 H12
   refine w_m ?_
   refine w_v (v := .func (.func 75) #[] #[]) (x_indexW 3 rfl rfl rfl Try.underlying95 sz94 Try.underlying94 rfl ⟨by decide, by decide⟩ rfl) ?_
   refine w_m ?_
   refine l_of (s_call (wt0 rfl) (x_call rfl rfl rfl cl75) (ev3_s  _ (H12.takes [0] (by decide))) ?_)
   rintro _ wq13 ⟨rfl, H14⟩
   replace H14 : S wq13 [Ob g (.cells #[cu, .int .i64 ev, .slice P nr C, mp, .int .i64 now, .int .i64 til, .bool begun, .bool whole, .bool dn, .bool stopped] 64 (0, 0)), Old w (fps [Ob g (.cells #[cu, .int .i64 ev, .slice P nr C, mp, .int .i64 now, .int .i64 til, .bool begun, .bool whole, .bool dn, .bool stopped] 64 (0, 0))])] := by have h := H12.absorbI [0] H14; exact h
   refine b_ret rfl rfl ?_
   refine w_e ?_
   rcases Bool.eq_false_or_eq_true (dn && begun) with hb15 | hb15
   ·
    refine g_cond_t rfl hb15 ?_
    refine w_s ?_
    refine w_r2 ?_
    refine w_e ?_
    refine g_weak [(2, .int .i64 3)] ⟨rfl, trivial⟩ ?_
    refine g_ret ?_
    refine g_in_ret ?_
    refine g_then_ret ?_
    refine g_then_ret ?_
    refine g_in_ret ?_
    refine g_then_ret ?_
    refine fin_ret [.tmp 2] [.int .i64 3] rfl ⟨rfl, trivial⟩ ?_
    exact ⟨by unfold evS; simp_all [tupled], H14⟩
   ·
    refine g_cond_f rfl hb15 ?_
    refine g_skip ?_
    refine g_in ?_
    refine g_then ?_
    refine g_region ?_
    refine w_b (v := .int .i64 3) (hb := (b_add (r := 3) (by decide))) ?_
    refine w_m ?_
    refine w_e ?_
    refine g_roundU ?_
    refine w_s ?_
    refine w_b ?_
    refine w_e ?_
    refine g_seq ?_
    refine g_cond_f rfl (by decide) ?_
    refine g_exit ?_
    refine g_then_exit ?_
    refine g_then_exit ?_
    refine g_in_hit ?_
    refine g_then ?_
    refine g_weak [] trivial ?_
    refine w_s ?_
    refine w_a ?_
    refine w_e ?_
    refine g_ret ?_
    refine fin_ret [.tmp 2] [.int .i64 0] rfl ⟨rfl, trivial⟩ ?_
    exact ⟨by unfold evS; simp_all [tupled], H14⟩
  ·
   refine g_cond_t rfl (neg_of hb10) ?_
   refine w_s ?_
   refine w_r2 ?_
   refine w_e ?_
   refine g_weak [(2, .int .i64 1)] ⟨rfl, trivial⟩ ?_
   refine g_ret ?_
   refine g_in_ret ?_
   refine g_then_ret ?_
   refine g_then_ret ?_
   refine g_in_ret ?_
   refine g_then_ret ?_
   refine fin_ret [.tmp 2] [.int .i64 1] rfl ⟨rfl, trivial⟩ ?_
   exact ⟨by unfold evS; simp_all [tupled], H9⟩
set_option maxRecDepth 20000 in
set_option maxHeartbeats 4000000 in
theorem free_s {g nr C : Nat} {P : Option Addr} {cu mp : Value} {ev now til : Int} {begun whole dn stopped : Bool} {x : Nat} {t : Tk}  (w : World) (HS : S w [Ob g (.cells #[cu, .int .i64 ev, .slice P nr C, mp, .int .i64 now, .int .i64 til, .bool begun, .bool whole, .bool dn, .bool stopped] 64 (0, 0)), Ob x (.cells #[.string (t.name), .int .i64 (t.failed), .int .i64 (t.after), .bool t.ans, .bool t.told] 71 (0, 0))]) : Calls Try.prog 33 #[.pointer (some ⟨g, 0, none⟩), .pointer (some ⟨x, 0, none⟩)] w fun e w' => e = .returned (.tuple #[.int .i64 (freeS (evS begun dn stopped) til t).1, .bool (freeS (evS begun dn stopped) til t).2]) ∧ S w' ([Ob g (.cells #[cu, .int .i64 ev, .slice P nr C, mp, .int .i64 now, .int .i64 til, .bool begun, .bool whole, .bool dn, .bool stopped] 64 (0, 0)), Ob x (.cells #[.string (t.name), .int .i64 (t.failed), .int .i64 (t.after), .bool t.ans, .bool t.told] 71 (0, 0))] ++ [Old w (fps [Ob g (.cells #[cu, .int .i64 ev, .slice P nr C, mp, .int .i64 now, .int .i64 til, .bool begun, .bool whole, .bool dn, .bool stopped] 64 (0, 0)), Ob x (.cells #[.string (t.name), .int .i64 (t.failed), .int .i64 (t.after), .bool t.ans, .bool t.told] 71 (0, 0))])]) := by
 have H0 := HS.beginI
 refine enter 37 Try.func33 rfl rfl rfl ?_
 refine g_weak [(0, .pointer (some ⟨g, 0, none⟩)), (1, .pointer (some ⟨x, 0, none⟩))] ⟨rfl, rfl, trivial⟩ ?_
 refine w_s ?_
 refine w_r2 ?_
 refine w_e ?_
 refine g_seq ?_
 refine w_s ?_
 refine w_m ?_
 refine l_of (s_call (wt0 rfl) (x_call' rfl rfl cl34) (event_s  _ (H0.takes [0] (by decide))) ?_)
 rintro _ wq1 ⟨rfl, H2⟩
 replace H2 : S wq1 [Ob g (.cells #[cu, .int .i64 ev, .slice P nr C, mp, .int .i64 now, .int .i64 til, .bool begun, .bool whole, .bool dn, .bool stopped] 64 (0, 0)), Ob x (.cells #[.string (t.name), .int .i64 (t.failed), .int .i64 (t.after), .bool t.ans, .bool t.told] 71 (0, 0)), Old w (fps [Ob g (.cells #[cu, .int .i64 ev, .slice P nr C, mp, .int .i64 now, .int .i64 til, .bool begun, .bool whole, .bool dn, .bool stopped] 64 (0, 0)), Ob x (.cells #[.string (t.name), .int .i64 (t.failed), .int .i64 (t.after), .bool t.ans, .bool t.told] 71 (0, 0))])] := by have h := H0.absorbI [0] H2; exact h
 refine b_ret rfl rfl ?_
 refine w_e ?_
 refine g_block ?_
 refine w_s ?_
 refine w_b ?_
 refine w_a ?_
 refine w_e ?_
 by_cases hb3 : ((evS begun dn stopped) : Int) = 2
 ·
  refine g_cond_t rfl (decide_eq_true hb3) ?_
  refine g_seq ?_
  refine g_quiet (by kernel_rfl) (by kernel_rfl) H2 ?_
  refine q_val (v := .pointer (some ⟨x, 0, none⟩)) (wt0 rfl) rfl rfl (fun wx H => x_move rfl rfl) ?_
  refine q_val (v := .pointer (some ⟨x, 0, none⟩)) (wt0 rfl) rfl rfl (fun wx H => x_nilCheck rfl rfl) ?_
  refine q_val (v := .pointer (some ⟨x, 3, none⟩)) (wt0 rfl) rfl rfl (fun wx H => x_fieldAddr rfl rfl fo71_3 rfl) ?_
  refine q_val (v := .bool t.ans) (wt0 rfl) rfl rfl (fun wx H => x_load1 H 1 rfl rfl Try.underlying4 rfl rfl rfl) ?_
  refine q_val (v := .bool t.ans) (wt0 rfl) rfl rfl (fun wx H => x_move rfl rfl) ?_
  rcases Bool.eq_false_or_eq_true (t.ans) with hb4 | hb4
  ·
   refine q_val (v := .pointer (some ⟨x, 0, none⟩)) (wt1 rfl rfl rfl rfl hb4) rfl rfl (fun wx H => x_move rfl rfl) ?_
   refine q_val (v := .pointer (some ⟨x, 0, none⟩)) (wt1 rfl rfl rfl rfl hb4) rfl rfl (fun wx H => x_nilCheck rfl rfl) ?_
   refine q_val (v := .pointer (some ⟨x, 4, none⟩)) (wt1 rfl rfl rfl rfl hb4) rfl rfl (fun wx H => x_fieldAddr rfl rfl fo71_4 rfl) ?_
   refine q_val (v := .bool t.told) (wt1 rfl rfl rfl rfl hb4) rfl rfl (fun wx H => x_load1 H 1 rfl rfl Try.underlying4 rfl rfl rfl) ?_
   refine q_val (v := .bool (!(t.told))) (wt1 rfl rfl rfl rfl hb4) rfl rfl (fun wx H => x_not (b := t.told) rfl rfl) ?_
   refine q_val (v := .bool (!(t.told))) (wt0 rfl) rfl rfl (fun wx H => x_pick_t rfl rfl hb4 rfl) ?_
   refine q_val (v := .int .i64 0) (wt0 rfl) rfl rfl (fun wx H => x_assign rfl rfl) ?_
   refine q_val (v := .bool (!(t.told))) (wt0 rfl) rfl rfl (fun wx H => x_assign rfl rfl) ?_
   refine q_nil (fun wq5 H6 => ?_)
   refine g_then ?_
   refine g_weak [(4, .int .i64 0), (5, .bool (!(t.told)))] ⟨rfl, rfl, trivial⟩ ?_
   refine g_ret ?_
   refine g_in_ret ?_
   refine g_then_ret ?_
   refine fin_ret [.tmp 4, .tmp 5] [.int .i64 0, .bool (!(t.told))] rfl ⟨rfl, rfl, trivial⟩ ?_
   exact ⟨by unfold freeS; rcases evS_cases begun dn stopped with he | he | he | he <;> simp_all [tupled], H6.takes [0, 1, 2] (by decide)⟩
  ·
   refine q_not (wn1 rfl rfl rfl rfl hb4) rfl rfl ?_
   refine q_not (wn1 rfl rfl rfl rfl hb4) rfl rfl ?_
   refine q_not (wn1 rfl rfl rfl rfl hb4) rfl rfl ?_
   refine q_not (wn1 rfl rfl rfl rfl hb4) rfl rfl ?_
   refine q_not (wn1 rfl rfl rfl rfl hb4) rfl rfl ?_
   refine q_val (v := .bool false) (wt0 rfl) rfl rfl (fun wx H => x_pick_f rfl rfl hb4 rfl) ?_
   refine q_val (v := .int .i64 0) (wt0 rfl) rfl rfl (fun wx H => x_assign rfl rfl) ?_
   refine q_val (v := .bool false) (wt0 rfl) rfl rfl (fun wx H => x_assign rfl rfl) ?_
   refine q_nil (fun wq7 H8 => ?_)
   refine g_then ?_
   refine g_weak [(4, .int .i64 0), (5, .bool false)] ⟨rfl, rfl, trivial⟩ ?_
   refine g_ret ?_
   refine g_in_ret ?_
   refine g_then_ret ?_
   refine fin_ret [.tmp 4, .tmp 5] [.int .i64 0, .bool false] rfl ⟨rfl, rfl, trivial⟩ ?_
   exact ⟨by unfold freeS; rcases evS_cases begun dn stopped with he | he | he | he <;> simp_all [tupled], H8.takes [0, 1, 2] (by decide)⟩
 ·
  refine g_cond_f rfl (decide_eq_false hb3) ?_
  refine g_seq ?_
  refine w_s ?_
  refine w_b ?_
  refine w_a ?_
  refine w_e ?_
  by_cases hb9 : ((evS begun dn stopped) : Int) = 1
  ·
   refine g_cond_t rfl (decide_eq_true hb9) ?_
   refine g_skip ?_
   refine g_then ?_
   refine g_cond_t rfl (decide_eq_true hb9) ?_
   refine w_s ?_
   refine w_r3 ?_
   refine w_1 H2 1 ?_
   refine w_r2 ?_
   refine w_e ?_
   refine g_weak [(4, .int .i64 (t.after)), (5, .bool true)] ⟨rfl, rfl, trivial⟩ ?_
   refine g_ret ?_
   refine g_in_ret ?_
   refine g_then_ret ?_
   refine fin_ret [.tmp 4, .tmp 5] [.int .i64 (t.after), .bool true] rfl ⟨rfl, rfl, trivial⟩ ?_
   exact ⟨by unfold freeS; rcases evS_cases begun dn stopped with he | he | he | he <;> simp_all [tupled], H2.takes [0, 1, 2] (by decide)⟩
  ·
   refine g_cond_f rfl (decide_eq_false hb9) ?_
   refine g_region ?_
   refine w_b ?_
   refine w_a ?_
   refine w_e ?_
   by_cases hb10 : ((evS begun dn stopped) : Int) = 3
   ·
    refine g_cond_t rfl (decide_eq_true hb10) ?_
    refine w_s ?_
    refine w_r3 ?_
    refine w_1 H2 1 ?_
    refine w_r2 ?_
    refine w_e ?_
    refine g_weak [(4, .int .i64 (t.after)), (5, .bool true)] ⟨rfl, rfl, trivial⟩ ?_
    refine g_ret ?_
    refine g_in_ret ?_
    refine g_then_ret ?_
    refine fin_ret [.tmp 4, .tmp 5] [.int .i64 (t.after), .bool true] rfl ⟨rfl, rfl, trivial⟩ ?_
    exact ⟨by unfold freeS; rcases evS_cases begun dn stopped with he | he | he | he <;> simp_all [tupled], H2.takes [0, 1, 2] (by decide)⟩
   ·
    refine g_cond_f rfl (decide_eq_false hb10) ?_
    refine g_skip ?_
    refine g_in ?_
    refine g_then ?_
    refine g_seq ?_
    refine g_quiet (by kernel_rfl) (by kernel_rfl) H2 ?_
    refine q_val (v := .pointer (some ⟨x, 0, none⟩)) (wt0 rfl) rfl rfl (fun wx H => x_move rfl rfl) ?_
    refine q_val (v := .pointer (some ⟨x, 0, none⟩)) (wt0 rfl) rfl rfl (fun wx H => x_nilCheck rfl rfl) ?_
    refine q_val (v := .pointer (some ⟨x, 2, none⟩)) (wt0 rfl) rfl rfl (fun wx H => x_fieldAddr rfl rfl fo71_2 rfl) ?_
    refine q_val (v := .int .i64 (t.after)) (wt0 rfl) rfl rfl (fun wx H => x_load1 H 1 rfl rfl Try.underlying3 rfl rfl rfl) ?_
    refine q_val (v := .pointer (some ⟨g, 0, none⟩)) (wt0 rfl) rfl rfl (fun wx H => x_move rfl rfl) ?_
    refine q_val (v := .pointer (some ⟨g, 0, none⟩)) (wt0 rfl) rfl rfl (fun wx H => x_nilCheck rfl rfl) ?_
    refine q_val (v := .pointer (some ⟨g, 5, none⟩)) (wt0 rfl) rfl rfl (fun wx H => x_fieldAddr rfl rfl fo64_4 rfl) ?_
    refine q_val (v := .int .i64 til) (wt0 rfl) rfl rfl (fun wx H => x_load1 H 0 rfl rfl Try.underlying3 rfl rfl rfl) ?_
    refine q_val (v := .int .i64 (max t.after til)) (wt0 rfl) rfl rfl (fun wx H => x_max rfl rfl rfl) ?_
    refine q_val (v := .int .i64 (max t.after til)) (wt0 rfl) rfl rfl (fun wx H => x_assign rfl rfl) ?_
    refine q_val (v := .bool true) (wt0 rfl) rfl rfl (fun wx H => x_assign rfl rfl) ?_
    refine q_nil (fun wq11 H12 => ?_)
    refine g_then ?_
    refine g_weak [(4, .int .i64 (max t.after til)), (5, .bool true)] ⟨rfl, rfl, trivial⟩ ?_
    refine g_ret ?_
    refine fin_ret [.tmp 4, .tmp 5] [.int .i64 (max t.after til), .bool true] rfl ⟨rfl, rfl, trivial⟩ ?_
    exact ⟨by unfold freeS; rcases evS_cases begun dn stopped with he | he | he | he <;> simp_all [tupled], H12.takes [0, 1, 2] (by decide)⟩
def tellS (was now : Int) : Int := if now < was ∨ 1000000000 < now then 7 else 0
set_option maxRecDepth 20000 in
set_option maxHeartbeats 4000000 in
theorem tell_s {g nr C : Nat} {P : Option Addr} {cu mp : Value} {ev now til : Int} {begun whole dn stopped : Bool} {n : Int}  (w : World) (HS : S w [Ob g (.cells #[cu, .int .i64 ev, .slice P nr C, mp, .int .i64 now, .int .i64 til, .bool begun, .bool whole, .bool dn, .bool stopped] 64 (0, 0))]) : Calls Try.prog 31 #[.pointer (some ⟨g, 0, none⟩), .int .i64 n] w fun e w' => e = .returned (.int .i64 (tellS now n)) ∧ S w' ([Ob g (.cells #[cu, .int .i64 ev, .slice P nr C, mp, .int .i64 now, .int .i64 til, .bool begun, .bool whole, .bool dn, .bool stopped] 64 (0, 0))] ++ [Old w (fps [Ob g (.cells #[cu, .int .i64 ev, .slice P nr C, mp, .int .i64 now, .int .i64 til, .bool begun, .bool whole, .bool dn, .bool stopped] 64 (0, 0))])]) := by
 have H0 := HS.beginI
 refine enter 19 Try.func31 rfl rfl rfl ?_
 refine g_weak [(0, .pointer (some ⟨g, 0, none⟩)), (1, .int .i64 n)] ⟨rfl, rfl, trivial⟩ ?_
 refine w_s ?_
 refine w_a ?_
 refine w_e ?_
 refine g_seq ?_
 refine g_block ?_
 refine w_s ?_
 refine w_m ?_
 refine w_b (v := .bool false) (hb := (b_eqN (r := false) Try.underlying26 rfl)) ?_
 refine w_a ?_
 refine w_e ?_
 refine g_cond_f rfl rfl ?_
 refine w_s ?_
 refine w_r4 ?_
 refine w_1 H0 0 ?_
 refine w_b ?_
 refine w_m ?_
 by_cases hb1 : (n : Int) < now
 ·
  refine w_n (decide_eq_true hb1) ?_
  refine w_n (decide_eq_true hb1) ?_
  refine w_v (v := .bool true) (x_pick_t rfl rfl (decide_eq_true hb1) rfl) ?_
  refine w_a ?_
  refine w_e ?_
  refine g_weak [(8, .bool true)] ⟨rfl, trivial⟩ ?_
  refine g_cond_t rfl rfl ?_
  refine w_s ?_
  refine w_a ?_
  refine w_e ?_
  refine g_ret ?_
  refine g_in_ret ?_
  refine g_then_ret ?_
  refine fin_ret [.tmp 4] [.int .i64 7] rfl ⟨rfl, trivial⟩ ?_
  exact ⟨by unfold tellS; simp_all [tupled], H0⟩
 ·
  refine w_g (decide_eq_false hb1) xm ?_
  refine w_g (decide_eq_false hb1) (x_bin rfl rfl rfl b_gtr) ?_
  refine w_v (v := .bool (decide ((1000000000 : Int) < n))) (x_pick_f rfl rfl (decide_eq_false hb1) rfl) ?_
  refine w_a ?_
  refine w_e ?_
  refine g_weak [(8, .bool (decide ((1000000000 : Int) < n)))] ⟨rfl, trivial⟩ ?_
  by_cases hb2 : (1000000000 : Int) < n
  ·
   refine g_cond_t rfl (decide_eq_true hb2) ?_
   refine w_s ?_
   refine w_a ?_
   refine w_e ?_
   refine g_ret ?_
   refine g_in_ret ?_
   refine g_then_ret ?_
   refine fin_ret [.tmp 4] [.int .i64 7] rfl ⟨rfl, trivial⟩ ?_
   exact ⟨by unfold tellS; simp_all [tupled], H0⟩
  ·
   refine g_cond_f rfl (decide_eq_false hb2) ?_
   refine g_skip ?_
   refine g_in ?_
   refine g_then ?_
   refine w_s ?_
   refine w_a ?_
   refine w_e ?_
   refine g_ret ?_
   refine fin_ret [.tmp 4] [.int .i64 0] rfl ⟨rfl, trivial⟩ ?_
   exact ⟨by unfold tellS; simp_all [tupled], H0⟩
end Go.Proofs.Ytibdlnjnomikjaa
