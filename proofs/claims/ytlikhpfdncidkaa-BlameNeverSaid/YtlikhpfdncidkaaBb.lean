import Derived.Test.YtlikhpfdncidkaaBa
set_option linter.unusedSimpArgs false
set_option linter.unusedVariables false
namespace Go.Proofs.Ytlikhpfdncidkaa
open Go.RowKit

theorem cl10 : callable Try.prog 10 = true := by kernel_rfl
theorem cl12 : callable Try.prog 12 = true := by kernel_rfl
theorem cl13 : callable Try.prog 13 = true := by kernel_rfl
theorem cl14 : callable Try.prog 14 = true := by kernel_rfl
theorem cl15 : callable Try.prog 15 = true := by kernel_rfl
theorem cl16 : callable Try.prog 16 = true := by kernel_rfl
theorem cl17 : callable Try.prog 17 = true := by kernel_rfl
theorem cl22 : callable Try.prog 22 = true := by kernel_rfl
theorem cl24 : callable Try.prog 24 = true := by kernel_rfl
theorem cl25 : callable Try.prog 25 = true := by kernel_rfl
theorem cl26 : callable Try.prog 26 = true := by kernel_rfl
theorem cl27 : callable Try.prog 27 = true := by kernel_rfl
theorem cl28 : callable Try.prog 28 = true := by kernel_rfl
theorem cl8 : callable Try.prog 8 = true := by kernel_rfl
theorem ze37 : zeO Try.prog 37 = some (.agg #[.int .i64 0, .int .i64 0, .int .i64 0]) := by kernel_rfl
set_option maxRecDepth 20000 in
set_option maxHeartbeats 4000000 in
set_option maxRecDepth 20000 in
set_option maxHeartbeats 4000000 in
theorem awake_s  (w : World) : Calls Try.prog 8 #[] w fun e w' => e = .returned (.bool true) ∧ S w' [Old w no] := by
  have H0 := S.old w
  refine enter 85 Try.func8 rfl rfl rfl ?_
  refine g_weak [] trivial ?_
  refine g_seq ?_
  refine g_region ?_
  refine l_of (s_val (v := .bool false) (wt0 rfl) rfl rfl (x_assign rfl rfl) ?_)
  refine g_nil ?_
  refine g_then ?_
  refine g_seq ?_
  refine g_region ?_
  refine l_of (s_call (wt0 rfl) (x_call' rfl rfl cl12) (new_x _) ?_)
  rintro _ wq4 ⟨Y1, hYo2, hYA3, rfl, H5⟩
  replace H5 : S wq4 [Y1.I, Old w no] := H0.absorb (new := [Y1.I]) H5
  refine b_ret rfl rfl ?_
  refine l_of (s_val (v := .pointer (some ⟨Y1.b, 0, none⟩)) (wt0 rfl) rfl rfl (x_assign rfl rfl) ?_)
  refine g_nil ?_
  refine g_then ?_
  refine g_seq ?_
  refine g_region ?_
  refine l_of (s_val (v := .agg #[.int .i64 0, .int .i64 0, .int .i64 1]) (wt0 rfl) rfl rfl (x_build (vs := [.int .i64 1]) rfl rfl (cells := #[.int .i64 0, .int .i64 0, .int .i64 1]) (by kernel_rfl)) ?_)
  refine l_of (s_val (v := .agg #[.int .i64 0, .int .i64 1, .int .i64 1]) (wt0 rfl) rfl rfl (x_build (vs := [.int .i64 1, .int .i64 1]) rfl rfl (cells := #[.int .i64 0, .int .i64 1, .int .i64 1]) (by kernel_rfl)) ?_)
  refine l_of (s_alloc H5 (wt0 rfl) rfl rfl rfl ze37 ?_)
  intro g6 wq7 H8
  refine l_of (s_alloc H8 (wt0 rfl) rfl rfl rfl ze37 ?_)
  intro g9 wq10 H11
  refine l_of (s_store H11 1 (wt0 rfl) rfl rfl rfl rfl rfl sz37 rfl rfl (cs' := #[.int .i64 0, .int .i64 0, .int .i64 1]) rfl ?_)
  intro wq12 H13
  refine l_of (s_store H13 0 (wt0 rfl) rfl rfl rfl rfl rfl sz37 rfl rfl (cs' := #[.int .i64 0, .int .i64 1, .int .i64 1]) rfl ?_)
  intro wq14 H15
  refine g_nil ?_
  refine g_then ?_
  refine g_seq ?_
  refine g_seq ?_
  refine g_region ?_
  refine l_of (s_val (v := .pointer (some ⟨Y1.b, 0, none⟩)) (wt0 rfl) rfl rfl (x_move rfl rfl) ?_)
  refine l_of (s_val (v := .agg #[.int .i64 0, .int .i64 0, .int .i64 1]) (wt0 rfl) rfl rfl (x_loadA H15 1 rfl rfl Try.underlying37 rfl sz37 rfl rfl rfl) ?_)
  refine l_of (s_call (wt0 rfl) (x_call' rfl rfl cl13) (sent_g (A' := aw1) hYo2 rfl hYA3 (ok_small (by decide)) (ok_small (by decide)) aw_e1 rfl _ (H15.takes [2] (by decide))) ?_)
  rintro _ wq20 ⟨Y16, hYb17, hYo18, hYA19, rfl, H21⟩
  replace H21 : S wq20 [Y16.I, Ob g9 (.cells #[.int .i64 0, .int .i64 1, .int .i64 1] 37 (0, 0)), Ob g6 (.cells #[.int .i64 0, .int .i64 0, .int .i64 1] 37 (0, 0)), Old w no] := H15.absorbI (new := [Y16.I]) [2] H21
  refine b_ret rfl rfl ?_
  refine l_of (s_val (v := .bool (!decide ((0 : Int) = 0))) (wt0 rfl) rfl rfl (x_bin rfl rfl rfl b_neq) ?_)
  refine l_of (s_val (v := .bool (!decide ((0 : Int) = 0))) (wt0 rfl) rfl rfl (x_move rfl rfl) ?_)
  refine l_of (s_val (v := .pointer (some ⟨Y1.b, 0, none⟩)) (wt1 rfl rfl rfl rfl (nf rfl)) rfl rfl (x_move rfl rfl) ?_)
  refine l_of (s_val (v := .agg #[.int .i64 0, .int .i64 1, .int .i64 1]) (wt1 rfl rfl rfl rfl (nf rfl)) rfl rfl (x_loadA H21 1 rfl rfl Try.underlying37 rfl sz37 rfl rfl rfl) ?_)
  refine l_of (s_call (wt1 rfl rfl rfl rfl (nf rfl)) (x_call' rfl rfl cl13) (sent_g (A' := aw2) hYo18 hYb17 hYA19 (ok_small (by decide)) (ok_small (by decide)) aw_e2 rfl _ (H21.takes [0] (by decide))) ?_)
  rintro _ wq26 ⟨Y22, hYb23, hYo24, hYA25, rfl, H27⟩
  replace H27 : S wq26 [Y22.I, Ob g9 (.cells #[.int .i64 0, .int .i64 1, .int .i64 1] 37 (0, 0)), Ob g6 (.cells #[.int .i64 0, .int .i64 0, .int .i64 1] 37 (0, 0)), Old w no] := H21.absorbI (new := [Y22.I]) [0] H27
  refine b_ret rfl rfl ?_
  refine l_of (s_val (v := .bool (!decide ((0 : Int) = 0))) (wt1 rfl rfl rfl rfl (nf rfl)) rfl rfl (x_bin rfl rfl rfl b_neq) ?_)
  refine l_of (s_val (v := .bool (!decide ((0 : Int) = 0))) (wt0 rfl) rfl rfl (x_pick_f rfl rfl (nf rfl) rfl) ?_)
  refine g_nil ?_
  refine g_then ?_
  refine g_weak [(1, .pointer (some ⟨Y1.b, 0, none⟩)), (2, .pointer (some ⟨g6, 0, none⟩)), (3, .pointer (some ⟨g9, 0, none⟩)), (20, .bool (!decide ((0 : Int) = 0)))] ⟨rfl, rfl, rfl, rfl, trivial⟩ ?_
  refine g_cond_f rfl (nf rfl) ?_
  refine g_skip ?_
  refine g_then ?_
  refine g_seq ?_
  refine g_seq ?_
  refine g_region ?_
  refine l_of (s_val (v := .pointer (some ⟨Y1.b, 0, none⟩)) (wt0 rfl) rfl rfl (x_move rfl rfl) ?_)
  refine l_of (s_call (wt0 rfl) (x_call' rfl rfl cl16) (fail_g (A' := aw3) hYo24 hYb23 hYA25 (ok_small (by decide)) aw_f2 aw_r2 rfl _ (H27.takes [0] (by decide))) ?_)
  rintro _ wq34 ⟨Y28, p32, c33, hYb29, hYo30, hYA31, rfl, H35⟩
  replace H35 : S wq34 [Rw 3 1 p32 0 c33 (zV ([])), Y28.I, Ob g9 (.cells #[.int .i64 0, .int .i64 1, .int .i64 1] 37 (0, 0)), Ob g6 (.cells #[.int .i64 0, .int .i64 0, .int .i64 1] 37 (0, 0)), Old w no] := H27.absorbI (new := [Rw 3 1 p32 0 c33 (zV ([])), Y28.I]) [0] H35
  refine b_ret rfl rfl ?_
  refine l_of (s_val (v := .tuple #[.slice p32 0 c33, .int .i64 0]) (wt0 rfl) rfl rfl (x_move rfl rfl) ?_)
  refine l_of (s_val (v := .slice p32 0 c33) (wt0 rfl) rfl rfl (x_extract rfl rfl rfl) ?_)
  refine l_of (s_val (v := .int .i64 0) (wt0 rfl) rfl rfl (x_extract rfl rfl rfl) ?_)
  refine l_of (s_val (v := .slice p32 0 c33) (wt0 rfl) rfl rfl (x_assign rfl rfl) ?_)
  refine l_of (s_val (v := .int .i64 0) (wt0 rfl) rfl rfl (x_assign rfl rfl) ?_)
  refine g_nil ?_
  refine g_then ?_
  refine g_seq ?_
  refine g_region ?_
  refine l_of (s_val (v := .slice p32 0 c33) (wt0 rfl) rfl rfl (x_move rfl rfl) ?_)
  refine l_of (s_val (v := .int .i64 0) (wt0 rfl) rfl rfl (x_lenl rfl rfl Try.underlying24) ?_)
  refine l_of (s_val (v := .bool (!decide ((0 : Int) = 0))) (wt0 rfl) rfl rfl (x_bin rfl rfl rfl b_neq) ?_)
  refine l_of (s_val (v := .bool (!decide ((0 : Int) = 0))) (wt0 rfl) rfl rfl (x_move rfl rfl) ?_)
  refine l_of (s_val (v := .int .i64 0) (wt1 rfl rfl rfl rfl (nf rfl)) rfl rfl (x_move rfl rfl) ?_)
  refine l_of (s_val (v := .bool (!decide ((0 : Int) = 0))) (wt1 rfl rfl rfl rfl (nf rfl)) rfl rfl (x_bin rfl rfl rfl b_neq) ?_)
  refine l_of (s_val (v := .bool (!decide ((0 : Int) = 0))) (wt0 rfl) rfl rfl (x_pick_f rfl rfl (nf rfl) rfl) ?_)
  refine l_of (s_val (v := .bool (!decide ((0 : Int) = 0))) (wt0 rfl) rfl rfl (x_move rfl rfl) ?_)
  refine l_of (s_val (v := .pointer (some ⟨Y1.b, 0, none⟩)) (wt1 rfl rfl rfl rfl (nf rfl)) rfl rfl (x_move rfl rfl) ?_)
  refine l_of (s_call (wt1 rfl rfl rfl rfl (nf rfl)) (x_call' rfl rfl cl11) (parole_g hYo30 hYb29 hYA31 (ok_small (by decide)) aw_p1 _ (H35.takes [1] (by decide))) ?_)
  rintro _ wq36 ⟨rfl, H37⟩
  replace H37 : S wq36 [Y28.I, Rw 3 1 p32 0 c33 (zV ([])), Ob g9 (.cells #[.int .i64 0, .int .i64 1, .int .i64 1] 37 (0, 0)), Ob g6 (.cells #[.int .i64 0, .int .i64 0, .int .i64 1] 37 (0, 0)), Old w no] := H35.absorbI (new := [Y28.I]) [1] H37
  refine b_ret rfl rfl ?_
  refine l_of (s_val (v := .bool false) (wt1 rfl rfl rfl rfl (nf rfl)) rfl rfl (x_not (b := true) rfl rfl) ?_)
  refine l_of (s_val (v := .bool false) (wt0 rfl) rfl rfl (x_pick_f rfl rfl (nf rfl) rfl) ?_)
  refine l_of (s_val (v := .bool false) (wt0 rfl) rfl rfl (x_move rfl rfl) ?_)
  refine l_of (s_val (v := .pointer (some ⟨Y1.b, 0, none⟩)) (wt1 rfl rfl rfl rfl rfl) rfl rfl (x_move rfl rfl) ?_)
  refine l_of (s_call (wt1 rfl rfl rfl rfl rfl) (x_call' rfl rfl cl11) (parole_g hYo30 hYb29 hYA31 (ok_small (by decide)) aw_p2 _ (H37.takes [0] (by decide))) ?_)
  rintro _ wq38 ⟨rfl, H39⟩
  replace H39 : S wq38 [Y28.I, Rw 3 1 p32 0 c33 (zV ([])), Ob g9 (.cells #[.int .i64 0, .int .i64 1, .int .i64 1] 37 (0, 0)), Ob g6 (.cells #[.int .i64 0, .int .i64 0, .int .i64 1] 37 (0, 0)), Old w no] := H37.absorbI (new := [Y28.I]) [0] H39
  refine b_ret rfl rfl ?_
  refine l_of (s_val (v := .bool false) (wt1 rfl rfl rfl rfl rfl) rfl rfl (x_not (b := true) rfl rfl) ?_)
  refine l_of (s_val (v := .bool false) (wt0 rfl) rfl rfl (x_pick_f rfl rfl rfl rfl) ?_)
  refine g_nil ?_
  refine g_then ?_
  refine g_weak [(1, .pointer (some ⟨Y1.b, 0, none⟩)), (2, .pointer (some ⟨g6, 0, none⟩)), (3, .pointer (some ⟨g9, 0, none⟩)), (42, .bool false)] ⟨rfl, rfl, rfl, rfl, trivial⟩ ?_
  refine g_cond_f rfl rfl ?_
  refine g_skip ?_
  refine g_then ?_
  refine g_seq ?_
  refine g_seq ?_
  refine g_region ?_
  refine l_of (s_val (v := .pointer (some ⟨Y1.b, 0, none⟩)) (wt0 rfl) rfl rfl (x_move rfl rfl) ?_)
  refine l_of (s_val (v := .agg #[.int .i64 0, .int .i64 0, .int .i64 1]) (wt0 rfl) rfl rfl (x_loadA H39 3 rfl rfl Try.underlying37 rfl sz37 rfl rfl rfl) ?_)
  refine l_of (s_call (wt0 rfl) (x_call' rfl rfl cl13) (sent_g (A' := aw4) hYo30 hYb29 hYA31 (ok_small (by decide)) (ok_small (by decide)) aw_e4 rfl _ (H39.takes [0] (by decide))) ?_)
  rintro _ wq44 ⟨Y40, hYb41, hYo42, hYA43, rfl, H45⟩
  replace H45 : S wq44 [Y40.I, Rw 3 1 p32 0 c33 (zV ([])), Ob g9 (.cells #[.int .i64 0, .int .i64 1, .int .i64 1] 37 (0, 0)), Ob g6 (.cells #[.int .i64 0, .int .i64 0, .int .i64 1] 37 (0, 0)), Old w no] := H39.absorbI (new := [Y40.I]) [0] H45
  refine b_ret rfl rfl ?_
  refine l_of (s_val (v := .bool (!decide ((0 : Int) = 0))) (wt0 rfl) rfl rfl (x_bin rfl rfl rfl b_neq) ?_)
  refine l_of (s_val (v := .bool (!decide ((0 : Int) = 0))) (wt0 rfl) rfl rfl (x_move rfl rfl) ?_)
  refine l_of (s_val (v := .pointer (some ⟨Y1.b, 0, none⟩)) (wt1 rfl rfl rfl rfl (nf rfl)) rfl rfl (x_move rfl rfl) ?_)
  refine l_of (s_val (v := .agg #[.int .i64 0, .int .i64 1, .int .i64 1]) (wt1 rfl rfl rfl rfl (nf rfl)) rfl rfl (x_loadA H45 2 rfl rfl Try.underlying37 rfl sz37 rfl rfl rfl) ?_)
  refine l_of (s_call (wt1 rfl rfl rfl rfl (nf rfl)) (x_call' rfl rfl cl13) (sent_g (A' := aw5) hYo42 hYb41 hYA43 (ok_small (by decide)) (ok_small (by decide)) aw_e5 rfl _ (H45.takes [0] (by decide))) ?_)
  rintro _ wq50 ⟨Y46, hYb47, hYo48, hYA49, rfl, H51⟩
  replace H51 : S wq50 [Y46.I, Rw 3 1 p32 0 c33 (zV ([])), Ob g9 (.cells #[.int .i64 0, .int .i64 1, .int .i64 1] 37 (0, 0)), Ob g6 (.cells #[.int .i64 0, .int .i64 0, .int .i64 1] 37 (0, 0)), Old w no] := H45.absorbI (new := [Y46.I]) [0] H51
  refine b_ret rfl rfl ?_
  refine l_of (s_val (v := .bool (!decide ((0 : Int) = 0))) (wt1 rfl rfl rfl rfl (nf rfl)) rfl rfl (x_bin rfl rfl rfl b_neq) ?_)
  refine l_of (s_val (v := .bool (!decide ((0 : Int) = 0))) (wt0 rfl) rfl rfl (x_pick_f rfl rfl (nf rfl) rfl) ?_)
  refine g_nil ?_
  refine g_then ?_
  refine g_weak [(1, .pointer (some ⟨Y1.b, 0, none⟩)), (52, .bool (!decide ((0 : Int) = 0)))] ⟨rfl, rfl, trivial⟩ ?_
  refine g_cond_f rfl (nf rfl) ?_
  refine g_skip ?_
  refine g_then ?_
  refine g_seq ?_
  refine g_region ?_
  refine l_of (s_val (v := .pointer (some ⟨Y1.b, 0, none⟩)) (wt0 rfl) rfl rfl (x_move rfl rfl) ?_)
  refine l_of (s_call (wt0 rfl) (x_call' rfl rfl cl25) (good_g (A' := aw6) hYo48 hYb47 hYA49 (ok_small (by decide)) aw_f5 aw_r5 rfl _ (H51.takes [0] (by decide))) ?_)
  rintro _ wq58 ⟨Y52, p56, c57, hYb53, hYo54, hYA55, rfl, H59⟩
  replace H59 : S wq58 [Rw 3 1 p56 1 c57 (zV ([2])), Y52.I, Rw 3 1 p32 0 c33 (zV ([])), Ob g9 (.cells #[.int .i64 0, .int .i64 1, .int .i64 1] 37 (0, 0)), Ob g6 (.cells #[.int .i64 0, .int .i64 0, .int .i64 1] 37 (0, 0)), Old w no] := H51.absorbI (new := [Rw 3 1 p56 1 c57 (zV ([2])), Y52.I]) [0] H59
  refine b_ret rfl rfl ?_
  refine l_of (s_val (v := .tuple #[.slice p56 1 c57, .int .i64 0]) (wt0 rfl) rfl rfl (x_move rfl rfl) ?_)
  refine l_of (s_val (v := .slice p56 1 c57) (wt0 rfl) rfl rfl (x_extract rfl rfl rfl) ?_)
  refine l_of (s_val (v := .int .i64 0) (wt0 rfl) rfl rfl (x_extract rfl rfl rfl) ?_)
  refine l_of (s_val (v := .slice p56 1 c57) (wt0 rfl) rfl rfl (x_assign rfl rfl) ?_)
  refine l_of (s_val (v := .int .i64 0) (wt0 rfl) rfl rfl (x_assign rfl rfl) ?_)
  refine g_nil ?_
  refine g_then ?_
  refine g_seq ?_
  refine g_region ?_
  refine l_of (s_val (v := .slice p56 1 c57) (wt0 rfl) rfl rfl (x_move rfl rfl) ?_)
  refine l_of (s_val (v := .int .i64 1) (wt0 rfl) rfl rfl (x_lenl rfl rfl Try.underlying24) ?_)
  refine l_of (s_val (v := .bool (decide ((1 : Int) = 1))) (wt0 rfl) rfl rfl (x_bin rfl rfl rfl b_eql) ?_)
  refine l_of (s_val (v := .bool (decide ((1 : Int) = 1))) (wt0 rfl) rfl rfl (x_move rfl rfl) ?_)
  refine l_of (s_val (v := .slice p56 1 c57) (wt1 rfl rfl rfl rfl (decide_eq_true rfl)) rfl rfl (x_move rfl rfl) ?_)
  refine l_of (s_val (v := .pointer ((p56).map fun q => q.add (0 * 1))) (wt1 rfl rfl rfl rfl (decide_eq_true rfl)) rfl rfl (x_idxR 0 (H59.rwReads (k := 0) rfl) rfl rfl rfl Try.underlying24 sz3 (by omega)) ?_)
  refine l_of (s_val (v := .int .i64 2) (wt1 rfl rfl rfl rfl (decide_eq_true rfl)) rfl rfl (x_loadR1 0 (H59.rwReads (k := 0) rfl) (by omega) rfl rfl Try.underlying3 rfl (rfl)) ?_)
  refine l_of (s_val (v := .bool (decide ((2 : Int) = 2))) (wt1 rfl rfl rfl rfl (decide_eq_true rfl)) rfl rfl (x_bin rfl rfl rfl b_eql) ?_)
  refine l_of (s_val (v := .bool (decide ((2 : Int) = 2))) (wt0 rfl) rfl rfl (x_pick_t rfl rfl (decide_eq_true rfl) rfl) ?_)
  refine l_of (s_val (v := .bool (decide ((2 : Int) = 2))) (wt0 rfl) rfl rfl (x_move rfl rfl) ?_)
  refine l_of (s_val (v := .int .i64 0) (wt1 rfl rfl rfl rfl (decide_eq_true rfl)) rfl rfl (x_move rfl rfl) ?_)
  refine l_of (s_val (v := .bool (decide ((0 : Int) = 0))) (wt1 rfl rfl rfl rfl (decide_eq_true rfl)) rfl rfl (x_bin rfl rfl rfl b_eql) ?_)
  refine l_of (s_val (v := .bool (decide ((0 : Int) = 0))) (wt0 rfl) rfl rfl (x_pick_t rfl rfl (decide_eq_true rfl) rfl) ?_)
  refine l_of (s_val (v := .bool (decide ((0 : Int) = 0))) (wt0 rfl) rfl rfl (x_move rfl rfl) ?_)
  refine l_of (s_val (v := .pointer (some ⟨Y1.b, 0, none⟩)) (wt1 rfl rfl rfl rfl (decide_eq_true rfl)) rfl rfl (x_move rfl rfl) ?_)
  refine l_of (s_call (wt1 rfl rfl rfl rfl (decide_eq_true rfl)) (x_call' rfl rfl cl10) (banned_g hYo54 hYb53 hYA55 (ok_small (by decide)) aw_k2 _ (H59.takes [1] (by decide))) ?_)
  rintro _ wq60 ⟨rfl, H61⟩
  replace H61 : S wq60 [Y52.I, Rw 3 1 p56 1 c57 (zV ([2])), Rw 3 1 p32 0 c33 (zV ([])), Ob g9 (.cells #[.int .i64 0, .int .i64 1, .int .i64 1] 37 (0, 0)), Ob g6 (.cells #[.int .i64 0, .int .i64 0, .int .i64 1] 37 (0, 0)), Old w no] := H59.absorbI (new := [Y52.I]) [1] H61
  refine b_ret rfl rfl ?_
  refine l_of (s_val (v := .bool true) (wt0 rfl) rfl rfl (x_pick_t rfl rfl (decide_eq_true rfl) rfl) ?_)
  refine l_of (s_val (v := .bool true) (wt0 rfl) rfl rfl (x_move rfl rfl) ?_)
  refine l_of (s_val (v := .pointer (some ⟨Y1.b, 0, none⟩)) (wt1 rfl rfl rfl rfl rfl) rfl rfl (x_move rfl rfl) ?_)
  refine l_of (s_call (wt1 rfl rfl rfl rfl rfl) (x_call' rfl rfl cl10) (banned_g hYo54 hYb53 hYA55 (ok_small (by decide)) aw_k1 _ (H61.takes [0] (by decide))) ?_)
  rintro _ wq62 ⟨rfl, H63⟩
  replace H63 : S wq62 [Y52.I, Rw 3 1 p56 1 c57 (zV ([2])), Rw 3 1 p32 0 c33 (zV ([])), Ob g9 (.cells #[.int .i64 0, .int .i64 1, .int .i64 1] 37 (0, 0)), Ob g6 (.cells #[.int .i64 0, .int .i64 0, .int .i64 1] 37 (0, 0)), Old w no] := H61.absorbI (new := [Y52.I]) [0] H63
  refine b_ret rfl rfl ?_
  refine l_of (s_val (v := .bool true) (wt1 rfl rfl rfl rfl rfl) rfl rfl (x_not (b := false) rfl rfl) ?_)
  refine l_of (s_val (v := .bool true) (wt0 rfl) rfl rfl (x_pick_t rfl rfl rfl rfl) ?_)
  refine l_of (s_val (v := .bool true) (wt0 rfl) rfl rfl (x_move rfl rfl) ?_)
  refine l_of (s_val (v := .pointer (some ⟨Y1.b, 0, none⟩)) (wt1 rfl rfl rfl rfl rfl) rfl rfl (x_move rfl rfl) ?_)
  refine l_of (s_call (wt1 rfl rfl rfl rfl rfl) (x_call' rfl rfl cl11) (parole_g hYo54 hYb53 hYA55 (ok_small (by decide)) aw_p6 _ (H63.takes [0] (by decide))) ?_)
  rintro _ wq64 ⟨rfl, H65⟩
  replace H65 : S wq64 [Y52.I, Rw 3 1 p56 1 c57 (zV ([2])), Rw 3 1 p32 0 c33 (zV ([])), Ob g9 (.cells #[.int .i64 0, .int .i64 1, .int .i64 1] 37 (0, 0)), Ob g6 (.cells #[.int .i64 0, .int .i64 0, .int .i64 1] 37 (0, 0)), Old w no] := H63.absorbI (new := [Y52.I]) [0] H65
  refine b_ret rfl rfl ?_
  refine l_of (s_val (v := .bool true) (wt1 rfl rfl rfl rfl rfl) rfl rfl (x_not (b := false) rfl rfl) ?_)
  refine l_of (s_val (v := .bool true) (wt0 rfl) rfl rfl (x_pick_t rfl rfl rfl rfl) ?_)
  refine l_of (s_val (v := .bool true) (wt0 rfl) rfl rfl (x_assign rfl rfl) ?_)
  refine g_nil ?_
  refine g_then ?_
  refine g_weak [(0, .bool true)] ⟨rfl, trivial⟩ ?_
  refine g_ret ?_
  refine fin_ret [.tmp 0] [.bool true] rfl ⟨rfl, trivial⟩ ?_
  exact ⟨rfl, H65.mask [false, false, false, false, false, true]⟩
set_option maxRecDepth 20000 in
set_option maxHeartbeats 4000000 in
set_option maxRecDepth 20000 in
set_option maxHeartbeats 4000000 in
theorem nil_law (p i bg ln : Int) (data : ByteArray) (w : World) : Calls Try.prog 7 #[.int .i64 p, .agg #[.int .i64 i, .int .i64 bg, .int .i64 ln], .string data] w fun e w' => e = .returned (.bool true) ∧ S w' [Old w no] := by
  have H0 := S.old w
  refine enter 115 Try.func7 rfl rfl rfl ?_
  refine g_weak [(0, .int .i64 p), (1, .agg #[.int .i64 i, .int .i64 bg, .int .i64 ln]), (2, .string data)] ⟨rfl, rfl, rfl, trivial⟩ ?_
  refine g_seq ?_
  refine g_region ?_
  refine l_of (s_box H0 (wt0 rfl) rfl rfl rfl rfl ?_)
  intro g1 wq2 H3
  refine l_of (s_val (v := .bool false) (wt0 rfl) rfl rfl (x_assign rfl rfl) ?_)
  refine g_nil ?_
  refine g_then ?_
  refine g_seq ?_
  refine g_region ?_
  refine l_of (s_val (v := .pointer none) (wt0 rfl) rfl rfl (x_assign rfl rfl) ?_)
  refine g_nil ?_
  refine g_then ?_
  refine g_seq ?_
  refine g_region ?_
  refine l_of (s_val (v := .pointer none) (wt0 rfl) rfl rfl (x_move rfl rfl) ?_)
  refine l_of (s_val (v := .pointer (some ⟨g1, 0, none⟩)) (wt0 rfl) rfl rfl (x_fieldAddr rfl rfl fo37_0 rfl) ?_)
  refine l_of (s_val (v := .int .i64 i) (wt0 rfl) rfl rfl (x_load1 H3 0 rfl rfl Try.underlying3 rfl rfl rfl) ?_)
  refine l_of (s_call (wt0 rfl) (x_call' rfl rfl cl16) (fail_n _ _) ?_)
  rintro _ wq4 ⟨rfl, H5⟩
  replace H5 : S wq4 [Ob g1 (.cells #[.int .i64 i, .int .i64 bg, .int .i64 ln] 37 (0, 0)), Old w no] := H3.absorb (new := []) H5
  refine b_ret rfl rfl ?_
  refine l_of (s_val (v := .tuple #[.slice none 0 0, .int .i64 1]) (wt0 rfl) rfl rfl (x_move rfl rfl) ?_)
  refine l_of (s_val (v := .slice none 0 0) (wt0 rfl) rfl rfl (x_extract rfl rfl rfl) ?_)
  refine l_of (s_val (v := .int .i64 1) (wt0 rfl) rfl rfl (x_extract rfl rfl rfl) ?_)
  refine l_of (s_val (v := .slice none 0 0) (wt0 rfl) rfl rfl (x_assign rfl rfl) ?_)
  refine l_of (s_val (v := .int .i64 1) (wt0 rfl) rfl rfl (x_assign rfl rfl) ?_)
  refine g_nil ?_
  refine g_then ?_
  refine g_seq ?_
  refine g_region ?_
  refine l_of (s_val (v := .pointer none) (wt0 rfl) rfl rfl (x_move rfl rfl) ?_)
  refine l_of (s_val (v := .pointer (some ⟨g1, 0, none⟩)) (wt0 rfl) rfl rfl (x_fieldAddr rfl rfl fo37_0 rfl) ?_)
  refine l_of (s_val (v := .int .i64 i) (wt0 rfl) rfl rfl (x_load1 H5 0 rfl rfl Try.underlying3 rfl rfl rfl) ?_)
  refine l_of (s_call (wt0 rfl) (x_call' rfl rfl cl25) (good_n _ _) ?_)
  rintro _ wq6 ⟨rfl, H7⟩
  replace H7 : S wq6 [Ob g1 (.cells #[.int .i64 i, .int .i64 bg, .int .i64 ln] 37 (0, 0)), Old w no] := H5.absorb (new := []) H7
  refine b_ret rfl rfl ?_
  refine l_of (s_val (v := .tuple #[.slice none 0 0, .int .i64 1]) (wt0 rfl) rfl rfl (x_move rfl rfl) ?_)
  refine l_of (s_val (v := .slice none 0 0) (wt0 rfl) rfl rfl (x_extract rfl rfl rfl) ?_)
  refine l_of (s_val (v := .int .i64 1) (wt0 rfl) rfl rfl (x_extract rfl rfl rfl) ?_)
  refine l_of (s_val (v := .slice none 0 0) (wt0 rfl) rfl rfl (x_assign rfl rfl) ?_)
  refine l_of (s_val (v := .int .i64 1) (wt0 rfl) rfl rfl (x_assign rfl rfl) ?_)
  refine g_nil ?_
  refine g_then ?_
  refine g_weak [(0, .int .i64 p), (2, .string data), (4, .pointer (some ⟨g1, 0, none⟩)), (7, .pointer none), (9, .int .i64 1), (11, .int .i64 1)] ⟨rfl, rfl, rfl, rfl, rfl, rfl, trivial⟩ ?_
  refine g_seq ?_
  refine g_region ?_
  refine l_of (s_val (v := .pointer none) (wt0 rfl) rfl rfl (x_move rfl rfl) ?_)
  refine l_of (s_val (v := .int .i64 p) (wt0 rfl) rfl rfl (x_move rfl rfl) ?_)
  refine l_of (s_val (v := .agg #[.int .i64 i, .int .i64 bg, .int .i64 ln]) (wt0 rfl) rfl rfl (x_loadA H7 0 rfl rfl Try.underlying37 rfl sz37 rfl rfl rfl) ?_)
  refine l_of (s_call (wt0 rfl) (x_call' rfl rfl cl14) (proved_n _ _ _ _ _ _) ?_)
  rintro _ wq8 ⟨rfl, H9⟩
  replace H9 : S wq8 [Ob g1 (.cells #[.int .i64 i, .int .i64 bg, .int .i64 ln] 37 (0, 0)), Old w no] := H7.absorb (new := []) H9
  refine b_ret rfl rfl ?_
  refine l_of (s_val (v := .tuple #[.bool false, .int .i64 1]) (wt0 rfl) rfl rfl (x_move rfl rfl) ?_)
  refine l_of (s_val (v := .bool false) (wt0 rfl) rfl rfl (x_extract rfl rfl rfl) ?_)
  refine l_of (s_val (v := .int .i64 1) (wt0 rfl) rfl rfl (x_extract rfl rfl rfl) ?_)
  refine l_of (s_val (v := .bool false) (wt0 rfl) rfl rfl (x_assign rfl rfl) ?_)
  refine l_of (s_val (v := .int .i64 1) (wt0 rfl) rfl rfl (x_assign rfl rfl) ?_)
  refine g_nil ?_
  refine g_then ?_
  refine g_seq ?_
  refine g_region ?_
  refine l_of (s_val (v := .pointer none) (wt0 rfl) rfl rfl (x_move rfl rfl) ?_)
  refine l_of (s_val (v := .int .i64 p) (wt0 rfl) rfl rfl (x_move rfl rfl) ?_)
  refine l_of (s_val (v := .agg #[.int .i64 i, .int .i64 bg, .int .i64 ln]) (wt0 rfl) rfl rfl (x_loadA H9 0 rfl rfl Try.underlying37 rfl sz37 rfl rfl rfl) ?_)
  refine l_of (s_val (v := .string data) (wt0 rfl) rfl rfl (x_move rfl rfl) ?_)
  refine l_of (s_call (wt0 rfl) (x_call' rfl rfl cl13) (sent_n _ _ _ _ _ _) ?_)
  rintro _ wq10 ⟨rfl, H11⟩
  replace H11 : S wq10 [Ob g1 (.cells #[.int .i64 i, .int .i64 bg, .int .i64 ln] 37 (0, 0)), Old w no] := H9.absorb (new := []) H11
  refine b_ret rfl rfl ?_
  refine l_of (s_val (v := .bool (decide ((1 : Int) = 1))) (wt0 rfl) rfl rfl (x_bin rfl rfl rfl b_eql) ?_)
  refine l_of (s_val (v := .bool (decide ((1 : Int) = 1))) (wt0 rfl) rfl rfl (x_move rfl rfl) ?_)
  refine l_of (s_val (v := .int .i64 1) (wt1 rfl rfl rfl rfl (decide_eq_true rfl)) rfl rfl (x_move rfl rfl) ?_)
  refine l_of (s_val (v := .bool (decide ((1 : Int) = 1))) (wt1 rfl rfl rfl rfl (decide_eq_true rfl)) rfl rfl (x_bin rfl rfl rfl b_eql) ?_)
  refine l_of (s_val (v := .bool (decide ((1 : Int) = 1))) (wt0 rfl) rfl rfl (x_pick_t rfl rfl (decide_eq_true rfl) rfl) ?_)
  refine l_of (s_val (v := .bool (decide ((1 : Int) = 1))) (wt0 rfl) rfl rfl (x_move rfl rfl) ?_)
  refine l_of (s_val (v := .int .i64 1) (wt1 rfl rfl rfl rfl (decide_eq_true rfl)) rfl rfl (x_move rfl rfl) ?_)
  refine l_of (s_val (v := .bool (decide ((1 : Int) = 1))) (wt1 rfl rfl rfl rfl (decide_eq_true rfl)) rfl rfl (x_bin rfl rfl rfl b_eql) ?_)
  refine l_of (s_val (v := .bool (decide ((1 : Int) = 1))) (wt0 rfl) rfl rfl (x_pick_t rfl rfl (decide_eq_true rfl) rfl) ?_)
  refine l_of (s_val (v := .bool (decide ((1 : Int) = 1))) (wt0 rfl) rfl rfl (x_move rfl rfl) ?_)
  refine l_of (s_val (v := .int .i64 1) (wt1 rfl rfl rfl rfl (decide_eq_true rfl)) rfl rfl (x_move rfl rfl) ?_)
  refine l_of (s_val (v := .bool (decide ((1 : Int) = 1))) (wt1 rfl rfl rfl rfl (decide_eq_true rfl)) rfl rfl (x_bin rfl rfl rfl b_eql) ?_)
  refine l_of (s_val (v := .bool (decide ((1 : Int) = 1))) (wt0 rfl) rfl rfl (x_pick_t rfl rfl (decide_eq_true rfl) rfl) ?_)
  refine l_of (s_val (v := .bool (decide ((1 : Int) = 1))) (wt0 rfl) rfl rfl (x_move rfl rfl) ?_)
  refine l_of (s_val (v := .pointer none) (wt1 rfl rfl rfl rfl (decide_eq_true rfl)) rfl rfl (x_move rfl rfl) ?_)
  refine l_of (s_val (v := .pointer (some ⟨g1, 0, none⟩)) (wt1 rfl rfl rfl rfl (decide_eq_true rfl)) rfl rfl (x_fieldAddr rfl rfl fo37_0 rfl) ?_)
  refine l_of (s_val (v := .int .i64 i) (wt1 rfl rfl rfl rfl (decide_eq_true rfl)) rfl rfl (x_load1 H11 0 rfl rfl Try.underlying3 rfl rfl rfl) ?_)
  refine l_of (s_call (wt1 rfl rfl rfl rfl (decide_eq_true rfl)) (x_call' rfl rfl cl26) (drop_n _ _) ?_)
  rintro _ wq12 ⟨rfl, H13⟩
  replace H13 : S wq12 [Ob g1 (.cells #[.int .i64 i, .int .i64 bg, .int .i64 ln] 37 (0, 0)), Old w no] := H11.absorb (new := []) H13
  refine b_ret rfl rfl ?_
  refine l_of (s_val (v := .bool (decide ((1 : Int) = 1))) (wt1 rfl rfl rfl rfl (decide_eq_true rfl)) rfl rfl (x_bin rfl rfl rfl b_eql) ?_)
  refine l_of (s_val (v := .bool (decide ((1 : Int) = 1))) (wt0 rfl) rfl rfl (x_pick_t rfl rfl (decide_eq_true rfl) rfl) ?_)
  refine l_of (s_val (v := .bool (decide ((1 : Int) = 1))) (wt0 rfl) rfl rfl (x_move rfl rfl) ?_)
  refine l_of (s_val (v := .pointer none) (wt1 rfl rfl rfl rfl (decide_eq_true rfl)) rfl rfl (x_move rfl rfl) ?_)
  refine l_of (s_val (v := .int .i64 p) (wt1 rfl rfl rfl rfl (decide_eq_true rfl)) rfl rfl (x_move rfl rfl) ?_)
  refine l_of (s_call (wt1 rfl rfl rfl rfl (decide_eq_true rfl)) (x_call' rfl rfl cl10) (banned_n _ _) ?_)
  rintro _ wq14 ⟨rfl, H15⟩
  replace H15 : S wq14 [Ob g1 (.cells #[.int .i64 i, .int .i64 bg, .int .i64 ln] 37 (0, 0)), Old w no] := H13.absorb (new := []) H15
  refine b_ret rfl rfl ?_
  refine l_of (s_val (v := .bool true) (wt1 rfl rfl rfl rfl (decide_eq_true rfl)) rfl rfl (x_not (b := false) rfl rfl) ?_)
  refine l_of (s_val (v := .bool true) (wt0 rfl) rfl rfl (x_pick_t rfl rfl (decide_eq_true rfl) rfl) ?_)
  refine l_of (s_val (v := .bool true) (wt0 rfl) rfl rfl (x_move rfl rfl) ?_)
  refine l_of (s_val (v := .pointer none) (wt1 rfl rfl rfl rfl rfl) rfl rfl (x_move rfl rfl) ?_)
  refine l_of (s_val (v := .int .i64 p) (wt1 rfl rfl rfl rfl rfl) rfl rfl (x_move rfl rfl) ?_)
  refine l_of (s_call (wt1 rfl rfl rfl rfl rfl) (x_call' rfl rfl cl11) (parole_n _ _) ?_)
  rintro _ wq16 ⟨rfl, H17⟩
  replace H17 : S wq16 [Ob g1 (.cells #[.int .i64 i, .int .i64 bg, .int .i64 ln] 37 (0, 0)), Old w no] := H15.absorb (new := []) H17
  refine b_ret rfl rfl ?_
  refine l_of (s_val (v := .bool true) (wt1 rfl rfl rfl rfl rfl) rfl rfl (x_not (b := false) rfl rfl) ?_)
  refine l_of (s_val (v := .bool true) (wt0 rfl) rfl rfl (x_pick_t rfl rfl rfl rfl) ?_)
  refine l_of (s_val (v := .bool true) (wt0 rfl) rfl rfl (x_move rfl rfl) ?_)
  refine l_of (s_val (v := .pointer none) (wt1 rfl rfl rfl rfl rfl) rfl rfl (x_move rfl rfl) ?_)
  refine l_of (s_val (v := .int .i64 p) (wt1 rfl rfl rfl rfl rfl) rfl rfl (x_move rfl rfl) ?_)
  refine l_of (s_call (wt1 rfl rfl rfl rfl rfl) (x_call' rfl rfl cl27) (score_n _ _) ?_)
  rintro _ wq18 ⟨rfl, H19⟩
  replace H19 : S wq18 [Ob g1 (.cells #[.int .i64 i, .int .i64 bg, .int .i64 ln] 37 (0, 0)), Old w no] := H17.absorb (new := []) H19
  refine b_ret rfl rfl ?_
  refine l_of (s_val (v := .bool (decide ((0 : Int) = 0))) (wt1 rfl rfl rfl rfl rfl) rfl rfl (x_bin rfl rfl rfl b_eql) ?_)
  refine l_of (s_val (v := .bool (decide ((0 : Int) = 0))) (wt0 rfl) rfl rfl (x_pick_t rfl rfl rfl rfl) ?_)
  refine l_of (s_val (v := .bool (decide ((0 : Int) = 0))) (wt0 rfl) rfl rfl (x_move rfl rfl) ?_)
  refine l_of (s_val (v := .pointer none) (wt1 rfl rfl rfl rfl (decide_eq_true rfl)) rfl rfl (x_move rfl rfl) ?_)
  refine l_of (s_call (wt1 rfl rfl rfl rfl (decide_eq_true rfl)) (x_call' rfl rfl cl24) (bans_n _) ?_)
  rintro _ wq20 ⟨rfl, H21⟩
  replace H21 : S wq20 [Ob g1 (.cells #[.int .i64 i, .int .i64 bg, .int .i64 ln] 37 (0, 0)), Old w no] := H19.absorb (new := []) H21
  refine b_ret rfl rfl ?_
  refine l_of (s_val (v := .int .i64 0) (wt1 rfl rfl rfl rfl (decide_eq_true rfl)) rfl rfl (x_lenl rfl rfl Try.underlying24) ?_)
  refine l_of (s_val (v := .bool (decide ((0 : Int) = 0))) (wt1 rfl rfl rfl rfl (decide_eq_true rfl)) rfl rfl (x_bin rfl rfl rfl b_eql) ?_)
  refine l_of (s_val (v := .bool (decide ((0 : Int) = 0))) (wt0 rfl) rfl rfl (x_pick_t rfl rfl (decide_eq_true rfl) rfl) ?_)
  refine l_of (s_val (v := .bool (decide ((0 : Int) = 0))) (wt0 rfl) rfl rfl (x_move rfl rfl) ?_)
  refine l_of (s_val (v := .pointer none) (wt1 rfl rfl rfl rfl (decide_eq_true rfl)) rfl rfl (x_move rfl rfl) ?_)
  refine l_of (s_val (v := .pointer (some ⟨g1, 0, none⟩)) (wt1 rfl rfl rfl rfl (decide_eq_true rfl)) rfl rfl (x_fieldAddr rfl rfl fo37_0 rfl) ?_)
  refine l_of (s_val (v := .int .i64 i) (wt1 rfl rfl rfl rfl (decide_eq_true rfl)) rfl rfl (x_load1 H21 0 rfl rfl Try.underlying3 rfl rfl rfl) ?_)
  refine l_of (s_call (wt1 rfl rfl rfl rfl (decide_eq_true rfl)) (x_call' rfl rfl cl15) (senders_n _ _) ?_)
  rintro _ wq22 ⟨rfl, H23⟩
  replace H23 : S wq22 [Ob g1 (.cells #[.int .i64 i, .int .i64 bg, .int .i64 ln] 37 (0, 0)), Old w no] := H21.absorb (new := []) H23
  refine b_ret rfl rfl ?_
  refine l_of (s_val (v := .int .i64 0) (wt1 rfl rfl rfl rfl (decide_eq_true rfl)) rfl rfl (x_lenl rfl rfl Try.underlying24) ?_)
  refine l_of (s_val (v := .bool (decide ((0 : Int) = 0))) (wt1 rfl rfl rfl rfl (decide_eq_true rfl)) rfl rfl (x_bin rfl rfl rfl b_eql) ?_)
  refine l_of (s_val (v := .bool (decide ((0 : Int) = 0))) (wt0 rfl) rfl rfl (x_pick_t rfl rfl (decide_eq_true rfl) rfl) ?_)
  refine l_of (s_val (v := .bool (decide ((0 : Int) = 0))) (wt0 rfl) rfl rfl (x_move rfl rfl) ?_)
  refine l_of (s_val (v := .pointer none) (wt1 rfl rfl rfl rfl (decide_eq_true rfl)) rfl rfl (x_move rfl rfl) ?_)
  refine l_of (s_val (v := .pointer (some ⟨g1, 0, none⟩)) (wt1 rfl rfl rfl rfl (decide_eq_true rfl)) rfl rfl (x_fieldAddr rfl rfl fo37_0 rfl) ?_)
  refine l_of (s_val (v := .int .i64 i) (wt1 rfl rfl rfl rfl (decide_eq_true rfl)) rfl rfl (x_load1 H23 0 rfl rfl Try.underlying3 rfl rfl rfl) ?_)
  refine l_of (s_call (wt1 rfl rfl rfl rfl (decide_eq_true rfl)) (x_call' rfl rfl cl28) (tries_n _ _) ?_)
  rintro _ wq24 ⟨rfl, H25⟩
  replace H25 : S wq24 [Ob g1 (.cells #[.int .i64 i, .int .i64 bg, .int .i64 ln] 37 (0, 0)), Old w no] := H23.absorb (new := []) H25
  refine b_ret rfl rfl ?_
  refine l_of (s_val (v := .bool (decide ((0 : Int) = 0))) (wt1 rfl rfl rfl rfl (decide_eq_true rfl)) rfl rfl (x_bin rfl rfl rfl b_eql) ?_)
  refine l_of (s_val (v := .bool (decide ((0 : Int) = 0))) (wt0 rfl) rfl rfl (x_pick_t rfl rfl (decide_eq_true rfl) rfl) ?_)
  refine l_of (s_val (v := .bool (decide ((0 : Int) = 0))) (wt0 rfl) rfl rfl (x_move rfl rfl) ?_)
  refine l_of (s_val (v := .pointer none) (wt1 rfl rfl rfl rfl (decide_eq_true rfl)) rfl rfl (x_move rfl rfl) ?_)
  refine l_of (s_val (v := .int .i64 p) (wt1 rfl rfl rfl rfl (decide_eq_true rfl)) rfl rfl (x_move rfl rfl) ?_)
  refine l_of (s_val (v := .pointer (some ⟨g1, 0, none⟩)) (wt1 rfl rfl rfl rfl (decide_eq_true rfl)) rfl rfl (x_fieldAddr rfl rfl fo37_0 rfl) ?_)
  refine l_of (s_val (v := .int .i64 i) (wt1 rfl rfl rfl rfl (decide_eq_true rfl)) rfl rfl (x_load1 H25 0 rfl rfl Try.underlying3 rfl rfl rfl) ?_)
  refine l_of (s_call (wt1 rfl rfl rfl rfl (decide_eq_true rfl)) (x_call' rfl rfl cl17) (may_n _ _ _) ?_)
  rintro _ wq26 ⟨rfl, H27⟩
  replace H27 : S wq26 [Ob g1 (.cells #[.int .i64 i, .int .i64 bg, .int .i64 ln] 37 (0, 0)), Old w no] := H25.absorb (new := []) H27
  refine b_ret rfl rfl ?_
  refine l_of (s_val (v := .bool true) (wt1 rfl rfl rfl rfl (decide_eq_true rfl)) rfl rfl (x_not (b := false) rfl rfl) ?_)
  refine l_of (s_val (v := .bool true) (wt0 rfl) rfl rfl (x_pick_t rfl rfl (decide_eq_true rfl) rfl) ?_)
  refine l_of (s_val (v := .bool true) (wt0 rfl) rfl rfl (x_move rfl rfl) ?_)
  refine l_of (s_val (v := .pointer none) (wt1 rfl rfl rfl rfl rfl) rfl rfl (x_move rfl rfl) ?_)
  refine l_of (s_call (wt1 rfl rfl rfl rfl rfl) (x_call' rfl rfl cl22) (copy_n _) ?_)
  rintro _ wq28 ⟨rfl, H29⟩
  replace H29 : S wq28 [Ob g1 (.cells #[.int .i64 i, .int .i64 bg, .int .i64 ln] 37 (0, 0)), Old w no] := H27.absorb (new := []) H29
  refine b_ret rfl rfl ?_
  refine l_of (s_val (v := .bool true) (wt1 rfl rfl rfl rfl rfl) rfl rfl (x_bin rfl rfl rfl (b_eqN (r := true) Try.underlying28 rfl)) ?_)
  refine l_of (s_val (v := .bool true) (wt0 rfl) rfl rfl (x_pick_t rfl rfl rfl rfl) ?_)
  refine l_of (s_val (v := .bool true) (wt0 rfl) rfl rfl (x_move rfl rfl) ?_)
  refine l_of (s_call (wt1 rfl rfl rfl rfl rfl) (x_call' rfl rfl cl8) (awake_s _) ?_)
  rintro _ wq30 ⟨rfl, H31⟩
  replace H31 : S wq30 [Ob g1 (.cells #[.int .i64 i, .int .i64 bg, .int .i64 ln] 37 (0, 0)), Old w no] := H29.absorb (new := []) H31
  refine b_ret rfl rfl ?_
  refine l_of (s_val (v := .bool true) (wt0 rfl) rfl rfl (x_pick_t rfl rfl rfl rfl) ?_)
  refine l_of (s_val (v := .bool true) (wt0 rfl) rfl rfl (x_assign rfl rfl) ?_)
  refine g_nil ?_
  refine g_then ?_
  refine g_weak [(6, .bool true)] ⟨rfl, trivial⟩ ?_
  refine g_ret ?_
  refine fin_ret [.tmp 6] [.bool true] rfl ⟨rfl, trivial⟩ ?_
  exact ⟨rfl, H31.mask [false, true]⟩
end Go.Proofs.Ytlikhpfdncidkaa
