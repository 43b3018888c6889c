import Derived.Test.YtlikhpfdncidkaaFk
import Derived.Test.YtlikhpfdncidkaaBa
set_option linter.unusedSimpArgs false
set_option linter.unusedVariables false
namespace Go.Proofs.Ytlikhpfdncidkaa
open Go.RowKit

theorem cl10 : callable Try.prog 10 = true := by kernel_rfl
theorem cl12 : callable Try.prog 12 = true := by kernel_rfl
theorem cl13 : callable Try.prog 13 = true := by kernel_rfl
theorem cl14 : callable Try.prog 14 = true := by kernel_rfl
theorem cl15 : callable Try.prog 15 = true := by kernel_rfl
theorem cl16 : callable Try.prog 16 = true := by kernel_rfl
theorem cl17 : callable Try.prog 17 = true := by kernel_rfl
theorem cl22 : callable Try.prog 22 = true := by kernel_rfl
theorem cl24 : callable Try.prog 24 = true := by kernel_rfl
theorem cl25 : callable Try.prog 25 = true := by kernel_rfl
theorem cl26 : callable Try.prog 26 = true := by kernel_rfl
theorem cl27 : callable Try.prog 27 = true := by kernel_rfl
theorem cl28 : callable Try.prog 28 = true := by kernel_rfl
theorem cl8 : callable Try.prog 8 = true := by kernel_rfl
theorem ze37 : zeO Try.prog 37 = some (.agg #[.int .i64 0, .int .i64 0, .int .i64 0]) := by kernel_rfl
set_option maxRecDepth 20000 in
set_option maxHeartbeats 4000000 in
theorem awake_s  (w : World) : Calls Try.prog 8 #[] w fun e w' => e = .returned (.bool true) ∧ S w' [Old w no] := by
 have H0 := S.old w
 refine enter 85 Try.func8 rfl rfl rfl ?_
 refine g_weak [] trivial ?_
 refine w_s ?_
 refine w_a ?_
 refine w_e ?_
 refine w_s ?_
 refine l_of (s_call (wt0 rfl) (x_call' rfl rfl cl12) (new_x _) ?_)
 rintro _ wq4 ⟨Y1, hYo2, hYA3, rfl, H5⟩
 replace H5 : S wq4 [Y1.I, Old w no] := H0.absorb (new := [Y1.I]) H5
 refine b_ret rfl rfl ?_
 refine w_a ?_
 refine w_e ?_
 refine w_s ?_
 refine w_v (v := .agg #[.int .i64 0, .int .i64 0, .int .i64 1]) (x_build (vs := [.int .i64 1]) rfl rfl (cells := #[.int .i64 0, .int .i64 0, .int .i64 1]) (by kernel_rfl)) ?_
 refine w_v (v := .agg #[.int .i64 0, .int .i64 1, .int .i64 1]) (x_build (vs := [.int .i64 1, .int .i64 1]) rfl rfl (cells := #[.int .i64 0, .int .i64 1, .int .i64 1]) (by kernel_rfl)) ?_
 refine l_of (s_alloc H5 (wt0 rfl) rfl rfl rfl ze37 ?_)
 intro g6 wq7 H8
 refine l_of (s_alloc H8 (wt0 rfl) rfl rfl rfl ze37 ?_)
 intro g9 wq10 H11
 refine l_of (w_st #[.int .i64 0, .int .i64 0, .int .i64 1] H11 1 ?_)
 intro wq12 H13
 refine l_of (w_st #[.int .i64 0, .int .i64 1, .int .i64 1] H13 0 ?_)
 intro wq14 H15
 refine w_e ?_
 refine g_seq ?_
 refine w_s ?_
 refine w_m ?_
 refine w_v (v := .agg #[.int .i64 0, .int .i64 0, .int .i64 1]) (x_loadA H15 1 rfl rfl Try.underlying37 rfl sz37 rfl rfl rfl) ?_
 refine l_of (s_call (wt0 rfl) (x_call' rfl rfl cl13) (sent_g (A' := aw1) hYo2 rfl hYA3 (ok_small (by decide)) (ok_small (by decide)) aw_e1 rfl _ (H15.takes [2] (by decide))) ?_)
 rintro _ wq20 ⟨Y16, hYb17, hYo18, hYA19, rfl, H21⟩
 replace H21 : S wq20 [Y16.I, Ob g9 (.cells #[.int .i64 0, .int .i64 1, .int .i64 1] 37 (0, 0)), Ob g6 (.cells #[.int .i64 0, .int .i64 0, .int .i64 1] 37 (0, 0)), Old w no] := by have h := H15.absorbI [2] H21; exact h
 refine b_ret rfl rfl ?_
 refine w_b (v := .bool (!decide ((0 : Int) = 0))) (hb := b_neq) ?_
 refine w_m ?_
 refine w_g (nf rfl) xm ?_
 refine w_g (v := .agg #[.int .i64 0, .int .i64 1, .int .i64 1]) (nf rfl) (x_loadA H21 1 rfl rfl Try.underlying37 rfl sz37 rfl rfl rfl) ?_
 refine l_of (s_call (wt1 rfl rfl rfl rfl (nf rfl)) (x_call' rfl rfl cl13) (sent_g (A' := aw2) hYo18 hYb17 hYA19 (ok_small (by decide)) (ok_small (by decide)) aw_e2 rfl _ (H21.takes [0] (by decide))) ?_)
 rintro _ wq26 ⟨Y22, hYb23, hYo24, hYA25, rfl, H27⟩
 replace H27 : S wq26 [Y22.I, Ob g9 (.cells #[.int .i64 0, .int .i64 1, .int .i64 1] 37 (0, 0)), Ob g6 (.cells #[.int .i64 0, .int .i64 0, .int .i64 1] 37 (0, 0)), Old w no] := by have h := H21.absorbI [0] H27; exact h
 refine b_ret rfl rfl ?_
 refine w_g (v := .bool (!decide ((0 : Int) = 0))) (nf rfl) (x_bin rfl rfl rfl b_neq) ?_
 refine w_v (v := .bool (!decide ((0 : Int) = 0))) (x_pick_f rfl rfl (nf rfl) rfl) ?_
 refine w_e ?_
 refine g_weak [(1, .pointer (some ⟨Y1.b, 0, none⟩)), (2, .pointer (some ⟨g6, 0, none⟩)), (3, .pointer (some ⟨g9, 0, none⟩)), (20, .bool (!decide ((0 : Int) = 0)))] ⟨rfl, rfl, rfl, rfl, trivial⟩ ?_
 refine g_cond_f rfl (nf rfl) ?_
 refine g_skip ?_
 refine g_then ?_
 refine g_seq ?_
 refine w_s ?_
 refine w_m ?_
 refine l_of (s_call (wt0 rfl) (x_call' rfl rfl cl16) (fail_g (A' := aw3) hYo24 hYb23 hYA25 (ok_small (by decide)) aw_f2 aw_r2 rfl _ (H27.takes [0] (by decide))) ?_)
 rintro _ wq34 ⟨Y28, p32, c33, hYb29, hYo30, hYA31, rfl, H35⟩
 replace H35 : S wq34 [Rw 3 1 p32 0 c33 (zV ([])), Y28.I, Ob g9 (.cells #[.int .i64 0, .int .i64 1, .int .i64 1] 37 (0, 0)), Ob g6 (.cells #[.int .i64 0, .int .i64 0, .int .i64 1] 37 (0, 0)), Old w no] := by have h := H27.absorbI [0] H35; exact h
 refine b_ret rfl rfl ?_
 refine w_r5 ?_
 refine w_e ?_
 refine w_s ?_
 refine w_m ?_
 refine w_v (v := .int .i64 0) (x_lenl rfl rfl Try.underlying24) ?_
 refine w_b (v := .bool (!decide ((0 : Int) = 0))) (hb := b_neq) ?_
 refine w_m ?_
 refine w_g (nf rfl) xm ?_
 refine w_g (v := .bool (!decide ((0 : Int) = 0))) (nf rfl) (x_bin rfl rfl rfl b_neq) ?_
 refine w_v (v := .bool (!decide ((0 : Int) = 0))) (x_pick_f rfl rfl (nf rfl) rfl) ?_
 refine w_m ?_
 refine w_g (nf rfl) xm ?_
 refine l_of (s_call (wt1 rfl rfl rfl rfl (nf rfl)) (x_call' rfl rfl cl11) (parole_g hYo30 hYb29 hYA31 (ok_small (by decide)) aw_p1 _ (H35.takes [1] (by decide))) ?_)
 rintro _ wq36 ⟨rfl, H37⟩
 replace H37 : S wq36 [Y28.I, Rw 3 1 p32 0 c33 (zV ([])), Ob g9 (.cells #[.int .i64 0, .int .i64 1, .int .i64 1] 37 (0, 0)), Ob g6 (.cells #[.int .i64 0, .int .i64 0, .int .i64 1] 37 (0, 0)), Old w no] := by have h := H35.absorbI [1] H37; exact h
 refine b_ret rfl rfl ?_
 refine w_g (v := .bool false) (nf rfl) (x_not (b := true) rfl rfl) ?_
 refine w_v (v := .bool false) (x_pick_f rfl rfl (nf rfl) rfl) ?_
 refine w_m ?_
 refine w_g rfl xm ?_
 refine l_of (s_call (wt1 rfl rfl rfl rfl rfl) (x_call' rfl rfl cl11) (parole_g hYo30 hYb29 hYA31 (ok_small (by decide)) aw_p2 _ (H37.takes [0] (by decide))) ?_)
 rintro _ wq38 ⟨rfl, H39⟩
 replace H39 : S wq38 [Y28.I, Rw 3 1 p32 0 c33 (zV ([])), Ob g9 (.cells #[.int .i64 0, .int .i64 1, .int .i64 1] 37 (0, 0)), Ob g6 (.cells #[.int .i64 0, .int .i64 0, .int .i64 1] 37 (0, 0)), Old w no] := by have h := H37.absorbI [0] H39; exact h
 refine b_ret rfl rfl ?_
 refine w_g (v := .bool false) rfl (x_not (b := true) rfl rfl) ?_
 refine w_v (v := .bool false) (x_pick_f rfl rfl rfl rfl) ?_
 refine w_e ?_
 refine g_weak [(1, .pointer (some ⟨Y1.b, 0, none⟩)), (2, .pointer (some ⟨g6, 0, none⟩)), (3, .pointer (some ⟨g9, 0, none⟩)), (42, .bool false)] ⟨rfl, rfl, rfl, rfl, trivial⟩ ?_
 refine g_cond_f rfl rfl ?_
 refine g_skip ?_
 refine g_then ?_
 refine g_seq ?_
 refine w_s ?_
 refine w_m ?_
 refine w_v (v := .agg #[.int .i64 0, .int .i64 0, .int .i64 1]) (x_loadA H39 3 rfl rfl Try.underlying37 rfl sz37 rfl rfl rfl) ?_
 refine l_of (s_call (wt0 rfl) (x_call' rfl rfl cl13) (sent_g (A' := aw4) hYo30 hYb29 hYA31 (ok_small (by decide)) (ok_small (by decide)) aw_e4 rfl _ (H39.takes [0] (by decide))) ?_)
 rintro _ wq44 ⟨Y40, hYb41, hYo42, hYA43, rfl, H45⟩
 replace H45 : S wq44 [Y40.I, Rw 3 1 p32 0 c33 (zV ([])), Ob g9 (.cells #[.int .i64 0, .int .i64 1, .int .i64 1] 37 (0, 0)), Ob g6 (.cells #[.int .i64 0, .int .i64 0, .int .i64 1] 37 (0, 0)), Old w no] := by have h := H39.absorbI [0] H45; exact h
 refine b_ret rfl rfl ?_
 refine w_b (v := .bool (!decide ((0 : Int) = 0))) (hb := b_neq) ?_
 refine w_m ?_
 refine w_g (nf rfl) xm ?_
 refine w_g (v := .agg #[.int .i64 0, .int .i64 1, .int .i64 1]) (nf rfl) (x_loadA H45 2 rfl rfl Try.underlying37 rfl sz37 rfl rfl rfl) ?_
 refine l_of (s_call (wt1 rfl rfl rfl rfl (nf rfl)) (x_call' rfl rfl cl13) (sent_g (A' := aw5) hYo42 hYb41 hYA43 (ok_small (by decide)) (ok_small (by decide)) aw_e5 rfl _ (H45.takes [0] (by decide))) ?_)
 rintro _ wq50 ⟨Y46, hYb47, hYo48, hYA49, rfl, H51⟩
 replace H51 : S wq50 [Y46.I, Rw 3 1 p32 0 c33 (zV ([])), Ob g9 (.cells #[.int .i64 0, .int .i64 1, .int .i64 1] 37 (0, 0)), Ob g6 (.cells #[.int .i64 0, .int .i64 0, .int .i64 1] 37 (0, 0)), Old w no] := by have h := H45.absorbI [0] H51; exact h
 refine b_ret rfl rfl ?_
 refine w_g (v := .bool (!decide ((0 : Int) = 0))) (nf rfl) (x_bin rfl rfl rfl b_neq) ?_
 refine w_v (v := .bool (!decide ((0 : Int) = 0))) (x_pick_f rfl rfl (nf rfl) rfl) ?_
 refine w_e ?_
 refine g_weak [(1, .pointer (some ⟨Y1.b, 0, none⟩)), (52, .bool (!decide ((0 : Int) = 0)))] ⟨rfl, rfl, trivial⟩ ?_
 refine g_cond_f rfl (nf rfl) ?_
 refine g_skip ?_
 refine g_then ?_
 refine w_s ?_
 refine w_m ?_
 refine l_of (s_call (wt0 rfl) (x_call' rfl rfl cl25) (good_g (A' := aw6) hYo48 hYb47 hYA49 (ok_small (by decide)) aw_f5 aw_r5 rfl _ (H51.takes [0] (by decide))) ?_)
 rintro _ wq58 ⟨Y52, p56, c57, hYb53, hYo54, hYA55, rfl, H59⟩
 replace H59 : S wq58 [Rw 3 1 p56 1 c57 (zV ([2])), Y52.I, Rw 3 1 p32 0 c33 (zV ([])), Ob g9 (.cells #[.int .i64 0, .int .i64 1, .int .i64 1] 37 (0, 0)), Ob g6 (.cells #[.int .i64 0, .int .i64 0, .int .i64 1] 37 (0, 0)), Old w no] := by have h := H51.absorbI [0] H59; exact h
 refine b_ret rfl rfl ?_
 refine w_r5 ?_
 refine w_e ?_
 refine w_s ?_
 refine w_m ?_
 refine w_v (v := .int .i64 1) (x_lenl rfl rfl Try.underlying24) ?_
 refine w_b ?_
 refine w_m ?_
 refine w_g (decide_eq_true rfl) xm ?_
 refine w_g (v := .pointer ((p56).map fun q => q.add (0 * 1))) (decide_eq_true rfl) (x_idxR 0 (H59.rwReads (k := 0) rfl) rfl rfl rfl Try.underlying24 sz3 (by omega)) ?_
 refine w_g (v := .int .i64 2) (decide_eq_true rfl) (x_loadR1 0 (H59.rwReads (k := 0) rfl) (by omega) rfl rfl Try.underlying3 rfl (rfl)) ?_
 refine w_g (decide_eq_true rfl) (x_bin rfl rfl rfl b_eql) ?_
 refine w_v (v := .bool (decide ((2 : Int) = 2))) (x_pick_t rfl rfl (decide_eq_true rfl) rfl) ?_
 refine w_m ?_
 refine w_g (decide_eq_true rfl) xm ?_
 refine w_g (decide_eq_true rfl) (x_bin rfl rfl rfl b_eql) ?_
 refine w_v (v := .bool (decide ((0 : Int) = 0))) (x_pick_t rfl rfl (decide_eq_true rfl) rfl) ?_
 refine w_m ?_
 refine w_g (decide_eq_true rfl) xm ?_
 refine l_of (s_call (wt1 rfl rfl rfl rfl (decide_eq_true rfl)) (x_call' rfl rfl cl10) (banned_g hYo54 hYb53 hYA55 (ok_small (by decide)) aw_k2 _ (H59.takes [1] (by decide))) ?_)
 rintro _ wq60 ⟨rfl, H61⟩
 replace H61 : S wq60 [Y52.I, Rw 3 1 p56 1 c57 (zV ([2])), Rw 3 1 p32 0 c33 (zV ([])), Ob g9 (.cells #[.int .i64 0, .int .i64 1, .int .i64 1] 37 (0, 0)), Ob g6 (.cells #[.int .i64 0, .int .i64 0, .int .i64 1] 37 (0, 0)), Old w no] := by have h := H59.absorbI [1] H61; exact h
 refine b_ret rfl rfl ?_
 refine w_v (v := .bool true) (x_pick_t rfl rfl (decide_eq_true rfl) rfl) ?_
 refine w_m ?_
 refine w_g rfl xm ?_
 refine l_of (s_call (wt1 rfl rfl rfl rfl rfl) (x_call' rfl rfl cl10) (banned_g hYo54 hYb53 hYA55 (ok_small (by decide)) aw_k1 _ (H61.takes [0] (by decide))) ?_)
 rintro _ wq62 ⟨rfl, H63⟩
 replace H63 : S wq62 [Y52.I, Rw 3 1 p56 1 c57 (zV ([2])), Rw 3 1 p32 0 c33 (zV ([])), Ob g9 (.cells #[.int .i64 0, .int .i64 1, .int .i64 1] 37 (0, 0)), Ob g6 (.cells #[.int .i64 0, .int .i64 0, .int .i64 1] 37 (0, 0)), Old w no] := by have h := H61.absorbI [0] H63; exact h
 refine b_ret rfl rfl ?_
 refine w_g (v := .bool true) rfl (x_not (b := false) rfl rfl) ?_
 refine w_v (v := .bool true) (x_pick_t rfl rfl rfl rfl) ?_
 refine w_m ?_
 refine w_g rfl xm ?_
 refine l_of (s_call (wt1 rfl rfl rfl rfl rfl) (x_call' rfl rfl cl11) (parole_g hYo54 hYb53 hYA55 (ok_small (by decide)) aw_p6 _ (H63.takes [0] (by decide))) ?_)
 rintro _ wq64 ⟨rfl, H65⟩
 replace H65 : S wq64 [Y52.I, Rw 3 1 p56 1 c57 (zV ([2])), Rw 3 1 p32 0 c33 (zV ([])), Ob g9 (.cells #[.int .i64 0, .int .i64 1, .int .i64 1] 37 (0, 0)), Ob g6 (.cells #[.int .i64 0, .int .i64 0, .int .i64 1] 37 (0, 0)), Old w no] := by have h := H63.absorbI [0] H65; exact h
 refine b_ret rfl rfl ?_
 refine w_g (v := .bool true) rfl (x_not (b := false) rfl rfl) ?_
 refine w_v (v := .bool true) (x_pick_t rfl rfl rfl rfl) ?_
 refine w_a ?_
 refine w_e ?_
 refine g_weak [(0, .bool true)] ⟨rfl, trivial⟩ ?_
 refine g_ret ?_
 refine fin_ret [.tmp 0] [.bool true] rfl ⟨rfl, trivial⟩ ?_
 exact ⟨rfl, H65.mask [false, false, false, false, false, true]⟩
end Go.Proofs.Ytlikhpfdncidkaa
