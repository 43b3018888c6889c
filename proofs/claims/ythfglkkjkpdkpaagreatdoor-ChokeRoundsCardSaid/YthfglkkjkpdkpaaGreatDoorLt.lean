import Derived.Test.YthfglkkjkpdkpaaGreatDoorLs
set_option linter.unusedSimpArgs false
set_option linter.unusedVariables false
namespace Go.Proofs.YthfglkkjkpdkpaaGreatDoor
open Go.RowKit

theorem cl16 : callable Tryz.prog 16 = true := by kernel_rfl
theorem cl21 : callable Tryz.prog 21 = true := by kernel_rfl
theorem cl22 : callable Tryz.prog 22 = true := by kernel_rfl
theorem cl25 : callable Tryz.prog 25 = true := by kernel_rfl
set_option maxRecDepth 20000 in
set_option maxHeartbeats 4000000 in
set_option maxRecDepth 20000 in
set_option maxHeartbeats 4000000 in
theorem Optimistic_r (round : Int) (hro : okI round) (seed : ByteArray) (l : List Rv) (p : Option Addr) (n c : Nat) (hn2 : n ≤ 30)  (w : World) (hr : Reads w p n c 10 (fl rvL l)) (ht : PowTab w) : Calls Tryz.prog 13 #[.int .i64 round, .string seed, .slice p n c] w fun e w' => ∃ p' c', e = .returned (.tuple #[.slice p' (optV round seed l).length c', .int .i64 (optE round seed l)]) ∧ S w' ([Rw 3 1 p' (optV round seed l).length c' (fl intL (optV round seed l))] ++ [Old w no]) := by
  have H0 := S.old w
  have hnl := hr.lenL rvE
  have hfw : (l.filter qW).length ≤ 30 := by have := List.length_filter_le qW l; omega
  refine enter 41 Tryz.func13 rfl rfl rfl ?_
  refine g_weak [(0, .int .i64 round), (1, .string seed), (2, .slice p n c)] ⟨rfl, rfl, rfl, trivial⟩ ?_
  refine g_seq ?_
  refine g_region ?_
  refine l_of (s_val (v := .slice none 0 0) (wt0 rfl) rfl rfl (x_assign rfl rfl) ?_)
  refine l_of (s_val (v := .int .i64 0) (wt0 rfl) rfl rfl (x_assign rfl rfl) ?_)
  refine g_nil ?_
  refine g_then ?_
  refine g_seq ?_
  refine g_seq ?_
  refine g_region ?_
  refine l_of (s_val (v := .string seed) (wt0 rfl) rfl rfl (x_move rfl rfl) ?_)
  refine l_of (s_val (v := .slice p n c) (wt0 rfl) rfl rfl (x_move rfl rfl) ?_)
  refine l_of (s_call (wt0 rfl) (x_call' rfl rfl cl22) (asked_r seed l p n c (by omega) _ (H0.exReads (k := 0) rfl hr (fun _ _ _ h => h))) ?_)
  rintro _ wq1 ⟨rfl, H2⟩
  replace H2 : S wq1 [Old w no] := H0.absorb (new := []) H2
  refine b_ret rfl rfl ?_
  refine l_of (s_val (v := .int .i64 ((askE seed l))) (wt0 rfl) rfl rfl (x_assign rfl rfl) ?_)
  refine g_nil ?_
  refine g_then ?_
  refine g_seq ?_
  refine g_region ?_
  refine l_of (s_val (v := .int .i64 ((askE seed l))) (wt0 rfl) rfl rfl (x_move rfl rfl) ?_)
  refine l_of (s_val (v := .bool (!decide (((askE seed l) : Int) = 0))) (wt0 rfl) rfl rfl (x_bin rfl rfl rfl b_neq) ?_)
  refine g_nil ?_
  refine g_then ?_
  by_cases hb3 : ((askE seed l) : Int) = 0
  · skip
    refine g_cond_f rfl (nf hb3) ?_
    refine g_skip ?_
    refine g_then ?_
    refine g_seq ?_
    refine g_seq ?_
    refine g_region ?_
    refine l_of (s_val (v := .int .i64 round) (wt0 rfl) rfl rfl (x_move rfl rfl) ?_)
    refine l_of (s_val (v := .bool (decide ((round : Int) < 0))) (wt0 rfl) rfl rfl (x_bin rfl rfl rfl b_lss) ?_)
    refine g_nil ?_
    refine g_then ?_
    by_cases hb4 : (round : Int) < 0
    · skip
      refine g_cond_t rfl (decide_eq_true hb4) ?_
      refine g_seq ?_
      refine g_region ?_
      refine l_of (s_val (v := .slice none 0 0) (wt0 rfl) rfl rfl (x_assign rfl rfl) ?_)
      refine l_of (s_val (v := .int .i64 7) (wt0 rfl) rfl rfl (x_assign rfl rfl) ?_)
      refine g_nil ?_
      refine g_then ?_
      refine g_ret ?_
      refine g_then_ret ?_
      refine fin_ret [.tmp 6, .tmp 7] [.slice none 0 0, .int .i64 7] rfl ⟨rfl, rfl, trivial⟩ ?_
      have hv : (optE round seed l) = 7 := opt_7 (by omega) (by omega)
      have hg : (optV round seed l) = [] := by unfold optV; rw [hv, if_neg (by decide)]
      rw [hg, hv]
      exact ⟨none, 0, rfl, (H2.takes [0] (by decide)).nilFl 3 1 intL⟩
    · skip
      refine g_cond_f rfl (decide_eq_false hb4) ?_
      refine g_skip ?_
      refine g_then ?_
      refine g_seq ?_
      refine g_region ?_
      refine l_of (s_val (v := .slice p n c) (wt0 rfl) rfl rfl (x_move rfl rfl) ?_)
      have hask : askE seed l = 0 := by omega
      have hval := (askE_ok hask).2.1
      have hs100 := askE_size hask
      have hsd2 : seed.size ≤ 200 := by omega
      have hrd2 : 0 ≤ round ∧ round ≤ 9223372036854775807 := ⟨by omega, hro.2⟩
      refine l_of (s_call (wt0 rfl) (x_call' rfl rfl cl16) (inter_r l p n c (by omega) _ (H2.exReads (k := 0) rfl hr (fun _ _ _ h => h))) ?_)
      rintro _ wq5 ⟨pi, ci, rfl, H6⟩
      replace H6 : S wq5 [Rw 30 10 pi ((l.filter qW).length) ci (fl rvL (l.filter qW)), Old w no] := H2.absorb (new := [Rw 30 10 pi ((l.filter qW).length) ci (fl rvL (l.filter qW))]) H6
      refine b_ret rfl rfl ?_
      refine l_of (s_val (v := .slice pi ((l.filter qW).length) ci) (wt0 rfl) rfl rfl (x_assign rfl rfl) ?_)
      refine g_nil ?_
      refine g_then ?_
      refine g_weak [(0, .int .i64 round), (1, .string seed), (9, .slice pi ((l.filter qW).length) ci)] ⟨rfl, rfl, rfl, trivial⟩ ?_
      refine g_seq ?_
      refine g_region ?_
      refine l_of (s_val (v := .slice none 0 0) (wt0 rfl) rfl rfl (x_assign rfl rfl) ?_)
      refine g_nil ?_
      refine g_then ?_
      refine g_seq ?_
      refine g_block ?_
      refine g_loop (ι := Option Addr × Nat × List Rv × Option Addr × Nat × List Int × List Rv) (fun (pb, cb, B9, po, co, O, o9) => [(0, .int .i64 round), (1, .string seed), (9, .slice pb B9.length cb), (10, .slice po O.length co)]) (fun (pb, cb, B9, po, co, O, o9) wx => (Picks (cO round seed) (l.filter qW) o9 B9) ∧ (O = o9.map Rv.id) ∧ S wx [Rw 30 10 pb B9.length cb (fl rvL B9), Rw 3 1 po O.length co (fl intL O), Old w no]) (fun (pb, cb, B9, po, co, O, o9) => B9.length) (pi, ci, (l.filter qW), none, 0, [], []) ⟨rfl, rfl, rfl, rfl, trivial⟩ ⟨Picks.nil, rfl, (((H6.takes [0, 1] (by decide)).nilFl 3 1 intL).takes [1, 0, 2] (by decide))⟩ ?_
      rintro ⟨pb, cb, B9, po, co, O, o9⟩ wq7 ⟨hP, hO, H8⟩
      replace H8 : S wq7 [Rw 30 10 pb B9.length cb (fl rvL B9), Rw 3 1 po O.length co (fl intL O), Old w no] := H8
      refine g_weak [(0, .int .i64 round), (1, .string seed), (9, .slice pb B9.length cb), (10, .slice po O.length co)] ⟨rfl, rfl, rfl, rfl, trivial⟩ ?_
      refine g_seq ?_
      refine g_seq ?_
      refine g_region ?_
      refine l_of (s_val (v := .slice pb B9.length cb) (wt0 rfl) rfl rfl (x_move rfl rfl) ?_)
      refine l_of (s_val (v := .int .i64 ((B9.length : Int))) (wt0 rfl) rfl rfl (x_lenl rfl rfl Tryz.underlying22) ?_)
      refine l_of (s_val (v := .bool (decide ((0 : Int) < (B9.length : Int)))) (wt0 rfl) rfl rfl (x_bin rfl rfl rfl b_gtr) ?_)
      refine g_nil ?_
      refine g_then ?_
      by_cases hb9 : (0 : Int) < (B9.length : Int)
      · skip
        refine g_cond_t rfl (decide_eq_true hb9) ?_
        refine g_skip ?_
        refine g_then ?_
        refine g_block ?_
        refine g_seq ?_
        refine g_region ?_
        refine l_of (s_val (v := .int .i64 round) (wt0 rfl) rfl rfl (x_move rfl rfl) ?_)
        refine l_of (s_val (v := .string seed) (wt0 rfl) rfl rfl (x_move rfl rfl) ?_)
        refine l_of (s_val (v := .slice pb B9.length cb) (wt0 rfl) rfl rfl (x_move rfl rfl) ?_)
        have hBl : B9.length ≤ 30 := Nat.le_trans hP.sub.length_le hfw
        have hop := hP.len
        have hOl : O.length = o9.length := by rw [hO, List.length_map]
        have hDB : ∀ x ∈ B9, DV x := fun x hx => validR_D (hval x (List.mem_filter.1 (hP.sub.subset hx)).1)
        refine l_of (s_call (wt0 rfl) (x_call' rfl rfl cl25) (lucky_r round seed hsd2 hrd2 B9 pb B9.length cb (by omega) (by omega) hDB _ (H8.rwReads (k := 0) rfl) (H8.tab (k := 2) rfl ht)) ?_)
        rintro _ wq10 ⟨j9, x9, rfl, hB9, H11⟩
        replace H11 : S wq10 [Rw 30 10 pb B9.length cb (fl rvL B9), Rw 3 1 po O.length co (fl intL O), Old w no] := H8.absorb (new := []) H11
        have hjl9 := hB9.1
        refine b_ret rfl rfl ?_
        refine l_of (s_val (v := .int .i64 ((j9 : Int))) (wt0 rfl) rfl rfl (x_assign rfl rfl) ?_)
        refine g_nil ?_
        refine g_then ?_
        refine g_seq ?_
        refine g_region ?_
        refine l_of (s_val (v := .slice po O.length co) (wt0 rfl) rfl rfl (x_move rfl rfl) ?_)
        refine l_of (s_val (v := .slice pb B9.length cb) (wt0 rfl) rfl rfl (x_move rfl rfl) ?_)
        refine l_of (s_val (v := .int .i64 ((j9 : Int))) (wt0 rfl) rfl rfl (x_move rfl rfl) ?_)
        refine l_of (s_val (v := .pointer ((pb).map fun q => q.add (j9 * 10))) (wt0 rfl) rfl rfl (x_idxR j9 (H11.rwReads (k := 0) rfl) rfl rfl rfl Tryz.underlying22 sz30 (by omega)) ?_)
        refine l_of (s_val (v := .pointer ((pb).map fun q => q.add (j9 * 10 + 0))) (wt0 rfl) rfl rfl (ex_cast (x_fieldAddrG (m := j9 * 10) ((H11.rwReads (k := 0) rfl).some (by omega)) rfl rfl fo30_0) rfl) ?_)
        refine l_of (s_val (v := .int .i64 (x9.id)) (wt0 rfl) rfl rfl (x_loadF1 (i := 0) (j := j9) rvE (H11.rwReads (k := 0) rfl) hB9.2.1 rfl rfl Tryz.underlying3 rfl rfl) ?_)
        refine l_of (s_buildSlice H11 (wt0 rfl) rfl rfl rfl (vs := [.int .i64 (x9.id)]) rfl Tryz.underlying24 sz3 ze3 rfl rfl (cells := #[.int .i64 (x9.id)]) (by kernel_rfl) ?_)
        intro g12 wq13 H14
        have hln19a := (H14.rwReads (k := 2) rfl).lenL intE
        have hln19 : (O ++ [x9.id]).length = O.length + 1 := by simp only [List.length_append, List.length_cons, List.length_nil] <;> omega
        refine l_of (s_appBn (m := 1) (l := O) (l2 := [x9.id]) intE H14 2 (j0 := 0) rfl rfl ⟨rfl, Nat.le_refl _⟩ (wt0 rfl) rfl rfl rfl rfl rfl rfl Tryz.underlying24 inf3 rfl (by decide) (by omega) ?_)
        intro p15 c16 wq17 H18
        replace H18 : S wq17 [Ob g12 (.cells #[.int .i64 (x9.id)] 3 (0, 0)), Rw 30 10 pb B9.length cb (fl rvL B9), Rw 3 1 p15 ((O ++ [x9.id]).length) c16 (fl intL (O ++ [x9.id])), Old w no] := H18
        refine l_of (s_val (v := .slice p15 ((O ++ [x9.id]).length) c16) (wt0 rfl) rfl rfl (x_assign rfl rfl) ?_)
        refine g_nil ?_
        refine g_then ?_
        refine g_weak [(0, .int .i64 round), (1, .string seed), (9, .slice pb B9.length cb), (10, .slice p15 ((O ++ [x9.id]).length) c16), (11, .int .i64 ((j9 : Int)))] ⟨rfl, rfl, rfl, rfl, rfl, trivial⟩ ?_
        refine g_region ?_
        refine l_of (s_val (v := .slice pb B9.length cb) (wt0 rfl) rfl rfl (x_move rfl rfl) ?_)
        refine l_of (s_val (v := .int .i64 ((j9 : Int))) (wt0 rfl) rfl rfl (x_move rfl rfl) ?_)
        refine l_of (s_call (wt0 rfl) (x_call' rfl rfl cl21) (without_r B9 pb B9.length cb (by omega) j9 (by omega) _ (H18.rwReads (k := 1) rfl)) ?_)
        rintro _ wq22 ⟨pw20, cw21, rfl, H23⟩
        replace H23 : S wq22 [Rw 30 10 pw20 ((B9.eraseIdx j9).length) cw21 (fl rvL (B9.eraseIdx j9)), Ob g12 (.cells #[.int .i64 (x9.id)] 3 (0, 0)), Rw 30 10 pb B9.length cb (fl rvL B9), Rw 3 1 p15 ((O ++ [x9.id]).length) c16 (fl intL (O ++ [x9.id])), Old w no] := H18.absorb (new := [Rw 30 10 pw20 ((B9.eraseIdx j9).length) cw21 (fl rvL (B9.eraseIdx j9))]) H23
        refine b_ret rfl rfl ?_
        refine l_of (s_val (v := .slice pw20 ((B9.eraseIdx j9).length) cw21) (wt0 rfl) rfl rfl (x_assign rfl rfl) ?_)
        refine g_nil ?_
        refine g_in ?_
        refine g_then ?_
        refine g_round (i := (pb, cb, B9, po, co, O, o9)) (pw20, cw21, (B9.eraseIdx j9), p15, c16, (O ++ [x9.id]), (o9 ++ [x9])) ?_ ?_ ?_
        · exact ⟨rfl, rfl, rfl, rfl, trivial⟩
        · exact ⟨(Picks.step hP hB9), (by rw [hO, List.map_append]; rfl), (H23.takes [0, 3, 4] (by decide))⟩
        · (try dsimp only); rw [List.length_eraseIdx_of_lt hB9.1]; have := hB9.1; omega
      · skip
        refine g_cond_f rfl (decide_eq_false hb9) ?_
        refine g_exit ?_
        refine g_then_exit ?_
        refine g_then_exit ?_
        refine g_in_hit ?_
        refine g_then ?_
        refine g_seq ?_
        refine g_region ?_
        refine l_of (s_val (v := .slice po O.length co) (wt0 rfl) rfl rfl (x_move rfl rfl) ?_)
        refine l_of (s_val (v := .slice po O.length co) (wt0 rfl) rfl rfl (x_assign rfl rfl) ?_)
        refine l_of (s_val (v := .int .i64 0) (wt0 rfl) rfl rfl (x_assign rfl rfl) ?_)
        refine g_nil ?_
        refine g_then ?_
        refine g_ret ?_
        refine fin_ret [.tmp 6, .tmp 7] [.slice po O.length co, .int .i64 0] rfl ⟨rfl, rfl, trivial⟩ ?_
        have hv : (optE round seed l) = 0 := opt_0 (by omega) (by omega)
        have hsr := (hP.srt (d := Rv.zero) (cO_wk round seed) (by omega)).2
        have hB0 : B9 = [] := List.eq_nil_of_length_eq_zero (by omega)
        have hs0 : srt Rv.zero (cO round seed) B9 = [] := List.eq_nil_of_length_eq_zero (by rw [srt_len, hB0]; rfl)
        rw [hs0, List.append_nil] at hsr
        have hg : (optV round seed l) = O := by unfold optV optL; rw [hv, if_pos rfl, hsr, hO]
        rw [hg, hv]
        exact ⟨_, _, rfl, H8.takes [1, 2] (by decide)⟩
  · skip
    refine g_cond_t rfl (nt hb3) ?_
    refine g_seq ?_
    refine g_region ?_
    refine l_of (s_val (v := .int .i64 ((askE seed l))) (wt0 rfl) rfl rfl (x_move rfl rfl) ?_)
    refine l_of (s_val (v := .slice none 0 0) (wt0 rfl) rfl rfl (x_assign rfl rfl) ?_)
    refine l_of (s_val (v := .int .i64 ((askE seed l))) (wt0 rfl) rfl rfl (x_assign rfl rfl) ?_)
    refine g_nil ?_
    refine g_then ?_
    refine g_ret ?_
    refine g_then_ret ?_
    refine fin_ret [.tmp 6, .tmp 7] [.slice none 0 0, .int .i64 ((askE seed l))] rfl ⟨rfl, rfl, trivial⟩ ?_
    have hv : (optE round seed l) = (askE seed l) := opt_a hb3
    have hg : (optV round seed l) = [] := by unfold optV; rw [hv, if_neg hb3]
    rw [hg, hv]
    exact ⟨none, 0, rfl, (H2.takes [0] (by decide)).nilFl 3 1 intL⟩
end Go.Proofs.YthfglkkjkpdkpaaGreatDoor
