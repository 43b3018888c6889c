import Derived.Test.YthfglkkjkpdkpaaGreatDoorFk
import Derived.Test.YthfglkkjkpdkpaaGreatDoorMa
import Derived.Test.YthfglkkjkpdkpaaGreatDoorLy
set_option linter.unusedSimpArgs false
set_option linter.unusedVariables false
namespace Go.Proofs.YthfglkkjkpdkpaaGreatDoor
open Go.RowKit

set_option maxRecDepth 20000 in
set_option maxHeartbeats 4000000 in
theorem let2_r (round slots : Int) (seed : ByteArray) (hsd2 : seed.size ≤ 200) (hrd2 : 0 ≤ round ∧ round ≤ 9223372036854775807) (hsl : 0 ≤ slots ∧ slots ≤ 100) (l : List Rv) (p : Option Addr) (n c : Nat) (hn2 : n ≤ 30) (hval : ∀ x ∈ l, validR x = true) (hnd : (l.map Rv.id).Nodup)  (w : World) (hr : Reads w p n c 10 (fl rvL l)) (ht : PowTab w) : Calls Tryz.prog 23 #[.int .i64 2, .int .i64 round, .int .i64 slots, .string seed, .slice p n c] w fun e w' => ∃ p' c', e = .returned (.slice p' (sortI ((ratedL round slots seed c2 l).map Rv.id)).length c') ∧ LetOK slots (l.filter qW) (ratedL round slots seed c2 l) ∧ S w' ([Rw 3 1 p' (sortI ((ratedL round slots seed c2 l).map Rv.id)).length c' (fl intL (sortI ((ratedL round slots seed c2 l).map Rv.id)))] ++ [Old w no]) := by
 have H0 := S.old w
 have hnl := hr.lenL rvE
 have hfl : (l.filter qW).length ≤ 30 := by have := List.length_filter_le qW l; omega
 refine enter 111 Tryz.func23 rfl rfl rfl ?_
 refine g_weak [(0, .int .i64 2), (1, .int .i64 round), (2, .int .i64 slots), (3, .string seed), (4, .slice p n c)] ⟨rfl, rfl, rfl, rfl, rfl, trivial⟩ ?_
 refine w_s ?_
 refine w_a ?_
 refine w_e ?_
 refine w_s ?_
 refine w_r2 ?_
 refine l_of (s_call (wt0 rfl) (x_call' rfl rfl cl16) (interw_r 2 (by decide) l p n c (by omega) _ (H0.exReads (k := 0) rfl hr (fun _ _ _ h => h))) ?_)
 rintro _ wq1 ⟨pi, ci, rfl, H2⟩
 replace H2 : S wq1 [Rw 30 10 pi ((l.filter qW).length) ci (fl rvL (l.filter qW)), Old w no] := by have h := H0.absorb H2; exact h
 refine b_ret rfl rfl ?_
 refine w_a ?_
 refine w_e ?_
 refine w_s ?_
 refine w_a ?_
 refine w_e ?_
 refine g_seq ?_
 refine w_s ?_
 refine w_m ?_
 refine w_b ?_
 refine w_e ?_
 refine g_cond_f rfl (by decide) ?_
 refine g_skip ?_
 refine g_then ?_
 refine g_seq ?_
 refine g_block ?_
 refine g_loop (ι := Option Addr × Nat × List Rv × Option Addr × Nat × List Int × List Rv) (fun (pb, cb, B9, po, co, O, o9) => [(0, .int .i64 2), (1, .int .i64 round), (2, .int .i64 slots), (3, .string seed), (11, .slice pb B9.length cb), (12, .slice po O.length co)]) (fun (pb, cb, B9, po, co, O, o9) wx => (LK c2 round slots seed (l.filter qW) o9 B9) ∧ (O = o9.map Rv.id) ∧ S wx [Rw 30 10 pb B9.length cb (fl rvL B9), Rw 3 1 po O.length co (fl intL O), Old w no]) (fun (pb, cb, B9, po, co, O, o9) => B9.length) (pi, ci, (l.filter qW), none, 0, [], []) ⟨rfl, rfl, rfl, rfl, rfl, rfl, trivial⟩ ⟨(LK.nil hsl.1), rfl, (((H2.takes [0, 1] (by decide)).nilFl 3 1 intL).takes [1, 0, 2] (by decide))⟩ ?_
 rintro ⟨pb, cb, B9, po, co, O, o9⟩ wq3 ⟨hP, hO, H4⟩
 refine g_weak [(0, .int .i64 2), (1, .int .i64 round), (2, .int .i64 slots), (3, .string seed), (11, .slice pb B9.length cb), (12, .slice po O.length co)] ⟨rfl, rfl, rfl, rfl, rfl, rfl, trivial⟩ ?_
 refine g_seq ?_
 refine w_s ?_
 refine w_m ?_
 refine w_v (v := .int .i64 ((O.length : Int))) (x_lenl rfl rfl Tryz.underlying24) ?_
 refine w_m ?_
 refine w_b ?_
 refine w_m ?_
 by_cases hb5 : ((O.length : Int) : Int) < slots
 ·
  refine w_g (decide_eq_true hb5) xm ?_
  refine w_g (v := .int .i64 ((B9.length : Int))) (decide_eq_true hb5) (x_lenl rfl rfl Tryz.underlying22) ?_
  refine w_g (decide_eq_true hb5) (x_bin rfl rfl rfl b_gtr) ?_
  refine w_v (v := .bool (decide ((0 : Int) < (B9.length : Int)))) (x_pick_t rfl rfl (decide_eq_true hb5) rfl) ?_
  refine w_e ?_
  by_cases hb6 : (0 : Int) < (B9.length : Int)
  ·
   refine g_cond_t rfl (decide_eq_true hb6) ?_
   refine g_skip ?_
   refine g_then ?_
   refine g_block ?_
   refine w_s ?_
   refine w_r2 ?_
   have hDB : ∀ x ∈ B9, DV x := fun x hx => validR_D (hval x (List.mem_filter.1 (hP.sub.subset hx)).1)
   have hBl : B9.length ≤ 30 := Nat.le_trans hP.sub.length_le hfl
   have hop := hP.len
   have hOl : O.length = o9.length := by rw [hO, List.length_map]
   have hle := hP.le
   refine l_of (s_call (wt0 rfl) (x_call' rfl rfl cl20) (best2_r B9 pb B9.length cb (by omega) (by omega) hDB _ (H4.rwReads (k := 0) rfl)) ?_)
   rintro _ wq7 ⟨jb, xb, rfl, hBb, H8⟩
   replace H8 : S wq7 [Rw 30 10 pb B9.length cb (fl rvL B9), Rw 3 1 po O.length co (fl intL O), Old w no] := H4.absorb (new := []) H8
   have hjlb := hBb.1
   refine b_ret rfl rfl ?_
   refine w_a ?_
   refine w_e ?_
   refine g_weak [(0, .int .i64 2), (1, .int .i64 round), (2, .int .i64 slots), (3, .string seed), (11, .slice pb B9.length cb), (12, .slice po O.length co), (17, .int .i64 ((jb : Int)))] ⟨rfl, rfl, rfl, rfl, rfl, rfl, rfl, trivial⟩ ?_
   refine g_seq ?_
   refine w_s ?_
   refine w_m ?_
   refine w_b (v := .bool (!decide ((2 : Int) = 3))) (hb := b_neq) ?_
   refine w_m ?_
   refine l_of (s_val (v := .int .i64 round) (wt1 rfl rfl rfl rfl (by decide)) rfl rfl (x_move rfl rfl) ?_)
   refine l_of (s_val (v := .int .i64 (round % 3)) (wt1 rfl rfl rfl rfl (by decide)) rfl rfl (x_bin rfl rfl rfl (b_rem (by omega) (rem0 (by omega)))) ?_)
   refine l_of (s_val (v := .bool (decide ((round % 3 : Int) = 2))) (wt1 rfl rfl rfl rfl (by decide)) rfl rfl (x_bin rfl rfl rfl b_eql) ?_)
   refine w_v (v := .bool (decide ((round % 3 : Int) = 2))) (x_pick_t rfl rfl (by decide) rfl) ?_
   refine w_m ?_
   by_cases hb9 : (round % 3 : Int) = 2
   ·
    refine w_g (decide_eq_true hb9) xm ?_
    refine w_g (v := .int .i64 ((O.length : Int))) (decide_eq_true hb9) (x_lenl rfl rfl Tryz.underlying24) ?_
    refine w_g (decide_eq_true hb9) xm ?_
    refine w_g (v := .int .i64 (slots - 1)) (decide_eq_true hb9) (x_bin rfl rfl rfl (b_sub (w64 (by omega)))) ?_
    refine w_g (decide_eq_true hb9) (x_bin rfl rfl rfl b_eql) ?_
    refine w_v (v := .bool (decide (((O.length : Int) : Int) = slots - 1))) (x_pick_t rfl rfl (decide_eq_true hb9) rfl) ?_
    refine w_e ?_
    refine g_weak [(0, .int .i64 2), (1, .int .i64 round), (2, .int .i64 slots), (3, .string seed), (11, .slice pb B9.length cb), (12, .slice po O.length co), (17, .int .i64 ((jb : Int))), (93, .bool (decide (((O.length : Int) : Int) = slots - 1)))] ⟨rfl, rfl, rfl, rfl, rfl, rfl, rfl, rfl, trivial⟩ ?_
    by_cases hb10 : ((O.length : Int) : Int) = slots - 1
    ·
     refine g_cond_t rfl (decide_eq_true hb10) ?_
     refine g_region ?_
     refine w_r3 ?_
     refine l_of (s_call (wt0 rfl) (x_call' rfl rfl cl25) (lucky_r round seed hsd2 hrd2 B9 pb B9.length cb (by omega) (by omega) hDB _ (H8.rwReads (k := 0) rfl) (H8.tab (k := 2) rfl ht)) ?_)
     rintro _ wq11 ⟨j9, x9, rfl, hB9, H12⟩
     replace H12 : S wq11 [Rw 30 10 pb B9.length cb (fl rvL B9), Rw 3 1 po O.length co (fl intL O), Old w no] := H8.absorb (new := []) H12
     have hjl9 := hB9.1
     refine b_ret rfl rfl ?_
     refine w_a ?_
     refine w_e ?_
     refine w_s ?_
     refine w_r3 ?_
     refine w_v (v := .pointer ((pb).map fun q => q.add (j9 * 10))) (x_idxR j9 (H12.rwReads (k := 0) rfl) rfl rfl rfl Tryz.underlying22 sz30 (by omega)) ?_
     refine w_v (v := .pointer ((pb).map fun q => q.add (j9 * 10 + 0))) (ex_cast (x_fieldAddrG (m := j9 * 10) ((H12.rwReads (k := 0) rfl).some (by omega)) rfl rfl fo30_0) rfl) ?_
     refine w_v (v := .int .i64 (x9.id)) (x_loadF1 (i := 0) (j := j9) rvE (H12.rwReads (k := 0) rfl) hB9.2.1 rfl rfl Tryz.underlying3 rfl rfl) ?_
     refine l_of (s_buildSlice H12 (wt0 rfl) rfl rfl rfl (vs := [.int .i64 (x9.id)]) rfl Tryz.underlying24 sz3 ze3 rfl rfl (cells := #[.int .i64 (x9.id)]) (by kernel_rfl) ?_)
     intro g13 wq14 H15
     have hln20a := (H15.rwReads (k := 2) rfl).lenL intE
     have hln20 : (O ++ [x9.id]).length = O.length + 1 := by simp only [List.length_append, List.length_cons, List.length_nil] <;> omega
     refine l_of (s_appBn (m := 1) (l := O) (l2 := [x9.id]) intE H15 2 (j0 := 0) rfl rfl ⟨rfl, Nat.le_refl _⟩ (wt0 rfl) rfl rfl rfl rfl rfl rfl Tryz.underlying24 inf3 rfl (by decide) (by omega) ?_)
     intro p16 c17 wq18 H19
     refine w_a ?_
     refine w_e ?_
     refine g_weak [(0, .int .i64 2), (1, .int .i64 round), (2, .int .i64 slots), (3, .string seed), (11, .slice pb B9.length cb), (12, .slice p16 ((O ++ [x9.id]).length) c17), (17, .int .i64 ((j9 : Int)))] ⟨rfl, rfl, rfl, rfl, rfl, rfl, rfl, trivial⟩ ?_
     refine g_region ?_
     refine w_r2 ?_
     refine l_of (s_call (wt0 rfl) (x_call' rfl rfl cl21) (without_r B9 pb B9.length cb (by omega) j9 (by omega) _ (H19.rwReads (k := 1) rfl)) ?_)
     rintro _ wq23 ⟨pw21, cw22, rfl, H24⟩
     replace H24 : S wq23 [Rw 30 10 pw21 ((B9.eraseIdx j9).length) cw22 (fl rvL (B9.eraseIdx j9)), Ob g13 (.cells #[.int .i64 (x9.id)] 3 (0, 0)), Rw 30 10 pb B9.length cb (fl rvL B9), Rw 3 1 p16 ((O ++ [x9.id]).length) c17 (fl intL (O ++ [x9.id])), Old w no] := by have h := H19.absorb H24; exact h
     refine b_ret rfl rfl ?_
     refine w_a ?_
     refine g_nil ?_
     refine g_in ?_
     refine g_then ?_
     refine g_round (i := (pb, cb, B9, po, co, O, o9)) (pw21, cw22, (B9.eraseIdx j9), p16, c17, (O ++ [x9.id]), (o9 ++ [x9])) ?_ ?_ ?_
     · exact ⟨rfl, rfl, rfl, rfl, rfl, rfl, trivial⟩
     · exact ⟨(hP.luck (by omega) (by omega) (by omega) hB9), (by rw [hO, List.map_append]; rfl), (H24.takes [0, 3, 4] (by decide))⟩
     · (try dsimp only); rw [List.length_eraseIdx_of_lt hB9.1]; have := hB9.1; omega
    ·
     refine g_cond_f rfl (decide_eq_false hb10) ?_
     refine g_skip ?_
     refine g_then ?_
     refine w_s ?_
     refine w_r3 ?_
     refine w_v (v := .pointer ((pb).map fun q => q.add (jb * 10))) (x_idxR jb (H8.rwReads (k := 0) rfl) rfl rfl rfl Tryz.underlying22 sz30 (by omega)) ?_
     refine w_v (v := .pointer ((pb).map fun q => q.add (jb * 10 + 0))) (ex_cast (x_fieldAddrG (m := jb * 10) ((H8.rwReads (k := 0) rfl).some (by omega)) rfl rfl fo30_0) rfl) ?_
     refine w_v (v := .int .i64 (xb.id)) (x_loadF1 (i := 0) (j := jb) rvE (H8.rwReads (k := 0) rfl) hBb.2.1 rfl rfl Tryz.underlying3 rfl rfl) ?_
     refine l_of (s_buildSlice H8 (wt0 rfl) rfl rfl rfl (vs := [.int .i64 (xb.id)]) rfl Tryz.underlying24 sz3 ze3 rfl rfl (cells := #[.int .i64 (xb.id)]) (by kernel_rfl) ?_)
     intro g25 wq26 H27
     have hln32a := (H27.rwReads (k := 2) rfl).lenL intE
     have hln32 : (O ++ [xb.id]).length = O.length + 1 := by simp only [List.length_append, List.length_cons, List.length_nil] <;> omega
     refine l_of (s_appBn (m := 1) (l := O) (l2 := [xb.id]) intE H27 2 (j0 := 0) rfl rfl ⟨rfl, Nat.le_refl _⟩ (wt0 rfl) rfl rfl rfl rfl rfl rfl Tryz.underlying24 inf3 rfl (by decide) (by omega) ?_)
     intro p28 c29 wq30 H31
     refine w_a ?_
     refine w_e ?_
     refine g_region ?_
     refine w_r2 ?_
     refine l_of (s_call (wt0 rfl) (x_call' rfl rfl cl21) (without_r B9 pb B9.length cb (by omega) jb (by omega) _ (H31.rwReads (k := 1) rfl)) ?_)
     rintro _ wq35 ⟨pw33, cw34, rfl, H36⟩
     replace H36 : S wq35 [Rw 30 10 pw33 ((B9.eraseIdx jb).length) cw34 (fl rvL (B9.eraseIdx jb)), Ob g25 (.cells #[.int .i64 (xb.id)] 3 (0, 0)), Rw 30 10 pb B9.length cb (fl rvL B9), Rw 3 1 p28 ((O ++ [xb.id]).length) c29 (fl intL (O ++ [xb.id])), Old w no] := by have h := H31.absorb H36; exact h
     refine b_ret rfl rfl ?_
     refine w_a ?_
     refine g_nil ?_
     refine g_in ?_
     refine g_then ?_
     refine g_round (i := (pb, cb, B9, po, co, O, o9)) (pw33, cw34, (B9.eraseIdx jb), p28, c29, (O ++ [xb.id]), (o9 ++ [xb])) ?_ ?_ ?_
     · exact ⟨rfl, rfl, rfl, rfl, rfl, rfl, trivial⟩
     · exact ⟨(hP.step (by omega) (by omega) hBb), (by rw [hO, List.map_append]; rfl), (H36.takes [0, 3, 4] (by decide))⟩
     · (try dsimp only); rw [List.length_eraseIdx_of_lt hBb.1]; have := hBb.1; omega
   ·
    refine w_n (decide_eq_false hb9) ?_
    refine w_n (decide_eq_false hb9) ?_
    refine w_n (decide_eq_false hb9) ?_
    refine w_n (decide_eq_false hb9) ?_
    refine w_n (decide_eq_false hb9) ?_
    refine w_v (v := .bool false) (x_pick_f rfl rfl (decide_eq_false hb9) rfl) ?_
    refine w_e ?_
    refine g_weak [(0, .int .i64 2), (1, .int .i64 round), (2, .int .i64 slots), (3, .string seed), (11, .slice pb B9.length cb), (12, .slice po O.length co), (17, .int .i64 ((jb : Int))), (93, .bool false)] ⟨rfl, rfl, rfl, rfl, rfl, rfl, rfl, rfl, trivial⟩ ?_
    refine g_cond_f rfl rfl ?_
    refine g_skip ?_
    refine g_then ?_
    refine w_s ?_
    refine w_r3 ?_
    refine w_v (v := .pointer ((pb).map fun q => q.add (jb * 10))) (x_idxR jb (H8.rwReads (k := 0) rfl) rfl rfl rfl Tryz.underlying22 sz30 (by omega)) ?_
    refine w_v (v := .pointer ((pb).map fun q => q.add (jb * 10 + 0))) (ex_cast (x_fieldAddrG (m := jb * 10) ((H8.rwReads (k := 0) rfl).some (by omega)) rfl rfl fo30_0) rfl) ?_
    refine w_v (v := .int .i64 (xb.id)) (x_loadF1 (i := 0) (j := jb) rvE (H8.rwReads (k := 0) rfl) hBb.2.1 rfl rfl Tryz.underlying3 rfl rfl) ?_
    refine l_of (s_buildSlice H8 (wt0 rfl) rfl rfl rfl (vs := [.int .i64 (xb.id)]) rfl Tryz.underlying24 sz3 ze3 rfl rfl (cells := #[.int .i64 (xb.id)]) (by kernel_rfl) ?_)
    intro g37 wq38 H39
    have hln44a := (H39.rwReads (k := 2) rfl).lenL intE
    have hln44 : (O ++ [xb.id]).length = O.length + 1 := by simp only [List.length_append, List.length_cons, List.length_nil] <;> omega
    refine l_of (s_appBn (m := 1) (l := O) (l2 := [xb.id]) intE H39 2 (j0 := 0) rfl rfl ⟨rfl, Nat.le_refl _⟩ (wt0 rfl) rfl rfl rfl rfl rfl rfl Tryz.underlying24 inf3 rfl (by decide) (by omega) ?_)
    intro p40 c41 wq42 H43
    refine w_a ?_
    refine w_e ?_
    refine g_region ?_
    refine w_r2 ?_
    refine l_of (s_call (wt0 rfl) (x_call' rfl rfl cl21) (without_r B9 pb B9.length cb (by omega) jb (by omega) _ (H43.rwReads (k := 1) rfl)) ?_)
    rintro _ wq47 ⟨pw45, cw46, rfl, H48⟩
    replace H48 : S wq47 [Rw 30 10 pw45 ((B9.eraseIdx jb).length) cw46 (fl rvL (B9.eraseIdx jb)), Ob g37 (.cells #[.int .i64 (xb.id)] 3 (0, 0)), Rw 30 10 pb B9.length cb (fl rvL B9), Rw 3 1 p40 ((O ++ [xb.id]).length) c41 (fl intL (O ++ [xb.id])), Old w no] := by have h := H43.absorb H48; exact h
    refine b_ret rfl rfl ?_
    refine w_a ?_
    refine g_nil ?_
    refine g_in ?_
    refine g_then ?_
    refine g_round (i := (pb, cb, B9, po, co, O, o9)) (pw45, cw46, (B9.eraseIdx jb), p40, c41, (O ++ [xb.id]), (o9 ++ [xb])) ?_ ?_ ?_
    · exact ⟨rfl, rfl, rfl, rfl, rfl, rfl, trivial⟩
    · exact ⟨(hP.step (by omega) (by omega) hBb), (by rw [hO, List.map_append]; rfl), (H48.takes [0, 3, 4] (by decide))⟩
    · (try dsimp only); rw [List.length_eraseIdx_of_lt hBb.1]; have := hBb.1; omega
  ·
   refine g_cond_f rfl (decide_eq_false hb6) ?_
   refine g_exit ?_
   refine g_then_exit ?_
   refine g_then_exit ?_
   refine g_in_hit ?_
   refine g_then ?_
   refine g_weak [(12, .slice po O.length co)] ⟨rfl, trivial⟩ ?_
   refine w_s ?_
   refine w_m ?_
   have hop := hP.len
   have hOl : O.length = o9.length := by rw [hO, List.length_map]
   refine l_of (s_call (wt0 rfl) (x_call' rfl rfl cl35) (asc_r O po O.length co (by omega) _ (H4.takes [1] (by decide))) ?_)
   rintro _ wq49 ⟨rfl, H50⟩
   replace H50 : S wq49 [Rw 3 1 po O.length co (fl intL (sortI O)), Rw 30 10 pb B9.length cb (fl rvL B9), Old w no] := by have h := H4.absorbI [1] H50; exact h
   refine b_ret rfl rfl ?_
   refine w_a ?_
   refine w_e ?_
   refine g_ret ?_
   refine fin_ret [.tmp 10] [.slice po O.length co] rfl ⟨rfl, trivial⟩ ?_
   have hop := hP.len
   have hOl : O.length = o9.length := by rw [hO, List.length_map]
   have hle := hP.le
   have hR : (ratedL round slots seed c2 l) = o9 := rated_is c2_wk (by omega) hnd hsl.1 hP (by omega)
   have he : (sortI ((ratedL round slots seed c2 l).map Rv.id)) = sortI O := by rw [hR, hO]
   have hel : (sortI ((ratedL round slots seed c2 l).map Rv.id)).length = O.length := by rw [he, sortI_len]
   have hok : LetOK slots (l.filter qW) (ratedL round slots seed c2 l) := by rw [hR]; exact hP.ok (by omega)
   rw [hel, he]
   exact ⟨_, _, rfl, hok, H50.takes [0, 2] (by decide)⟩
 ·
  refine w_n (decide_eq_false hb5) ?_
  refine w_n (decide_eq_false hb5) ?_
  refine w_n (decide_eq_false hb5) ?_
  refine w_v (v := .bool false) (x_pick_f rfl rfl (decide_eq_false hb5) rfl) ?_
  refine w_e ?_
  refine g_cond_f rfl rfl ?_
  refine g_exit ?_
  refine g_then_exit ?_
  refine g_then_exit ?_
  refine g_in_hit ?_
  refine g_then ?_
  refine g_weak [(12, .slice po O.length co)] ⟨rfl, trivial⟩ ?_
  refine w_s ?_
  refine w_m ?_
  have hop := hP.len
  have hOl : O.length = o9.length := by rw [hO, List.length_map]
  refine l_of (s_call (wt0 rfl) (x_call' rfl rfl cl35) (asc_r O po O.length co (by omega) _ (H4.takes [1] (by decide))) ?_)
  rintro _ wq51 ⟨rfl, H52⟩
  replace H52 : S wq51 [Rw 3 1 po O.length co (fl intL (sortI O)), Rw 30 10 pb B9.length cb (fl rvL B9), Old w no] := by have h := H4.absorbI [1] H52; exact h
  refine b_ret rfl rfl ?_
  refine w_a ?_
  refine w_e ?_
  refine g_ret ?_
  refine fin_ret [.tmp 10] [.slice po O.length co] rfl ⟨rfl, trivial⟩ ?_
  have hop := hP.len
  have hOl : O.length = o9.length := by rw [hO, List.length_map]
  have hle := hP.le
  have hR : (ratedL round slots seed c2 l) = o9 := rated_is c2_wk (by omega) hnd hsl.1 hP (by omega)
  have he : (sortI ((ratedL round slots seed c2 l).map Rv.id)) = sortI O := by rw [hR, hO]
  have hel : (sortI ((ratedL round slots seed c2 l).map Rv.id)).length = O.length := by rw [he, sortI_len]
  have hok : LetOK slots (l.filter qW) (ratedL round slots seed c2 l) := by rw [hR]; exact hP.ok (by omega)
  rw [hel, he]
  exact ⟨_, _, rfl, hok, H52.takes [0, 2] (by decide)⟩
set_option maxRecDepth 20000 in
set_option maxHeartbeats 4000000 in
theorem let4_r (round slots : Int) (seed : ByteArray) (hsd2 : seed.size ≤ 200) (hrd2 : 0 ≤ round ∧ round ≤ 9223372036854775807) (hsl : 0 ≤ slots ∧ slots ≤ 100) (l : List Rv) (p : Option Addr) (n c : Nat) (hn2 : n ≤ 30) (hval : ∀ x ∈ l, validR x = true) (hnd : (l.map Rv.id).Nodup)  (w : World) (hr : Reads w p n c 10 (fl rvL l)) (ht : PowTab w) : Calls Tryz.prog 23 #[.int .i64 4, .int .i64 round, .int .i64 slots, .string seed, .slice p n c] w fun e w' => ∃ p' c', e = .returned (.slice p' (sortI ((ratedL round slots seed c4 l).map Rv.id)).length c') ∧ LetOK slots (l.filter qW) (ratedL round slots seed c4 l) ∧ S w' ([Rw 3 1 p' (sortI ((ratedL round slots seed c4 l).map Rv.id)).length c' (fl intL (sortI ((ratedL round slots seed c4 l).map Rv.id)))] ++ [Old w no]) := by
 have H0 := S.old w
 have hnl := hr.lenL rvE
 have hfl : (l.filter qW).length ≤ 30 := by have := List.length_filter_le qW l; omega
 refine enter 111 Tryz.func23 rfl rfl rfl ?_
 refine g_weak [(0, .int .i64 4), (1, .int .i64 round), (2, .int .i64 slots), (3, .string seed), (4, .slice p n c)] ⟨rfl, rfl, rfl, rfl, rfl, trivial⟩ ?_
 refine w_s ?_
 refine w_a ?_
 refine w_e ?_
 refine w_s ?_
 refine w_r2 ?_
 refine l_of (s_call (wt0 rfl) (x_call' rfl rfl cl16) (interw_r 4 (by decide) l p n c (by omega) _ (H0.exReads (k := 0) rfl hr (fun _ _ _ h => h))) ?_)
 rintro _ wq1 ⟨pi, ci, rfl, H2⟩
 replace H2 : S wq1 [Rw 30 10 pi ((l.filter qW).length) ci (fl rvL (l.filter qW)), Old w no] := by have h := H0.absorb H2; exact h
 refine b_ret rfl rfl ?_
 refine w_a ?_
 refine w_e ?_
 refine w_s ?_
 refine w_a ?_
 refine w_e ?_
 refine g_seq ?_
 refine w_s ?_
 refine w_m ?_
 refine w_b ?_
 refine w_e ?_
 refine g_cond_f rfl (by decide) ?_
 refine g_skip ?_
 refine g_then ?_
 refine g_seq ?_
 refine g_block ?_
 refine g_loop (ι := Option Addr × Nat × List Rv × Option Addr × Nat × List Int × List Rv) (fun (pb, cb, B9, po, co, O, o9) => [(0, .int .i64 4), (1, .int .i64 round), (2, .int .i64 slots), (3, .string seed), (11, .slice pb B9.length cb), (12, .slice po O.length co)]) (fun (pb, cb, B9, po, co, O, o9) wx => (LK c4 round slots seed (l.filter qW) o9 B9) ∧ (O = o9.map Rv.id) ∧ S wx [Rw 30 10 pb B9.length cb (fl rvL B9), Rw 3 1 po O.length co (fl intL O), Old w no]) (fun (pb, cb, B9, po, co, O, o9) => B9.length) (pi, ci, (l.filter qW), none, 0, [], []) ⟨rfl, rfl, rfl, rfl, rfl, rfl, trivial⟩ ⟨(LK.nil hsl.1), rfl, (((H2.takes [0, 1] (by decide)).nilFl 3 1 intL).takes [1, 0, 2] (by decide))⟩ ?_
 rintro ⟨pb, cb, B9, po, co, O, o9⟩ wq3 ⟨hP, hO, H4⟩
 refine g_weak [(0, .int .i64 4), (1, .int .i64 round), (2, .int .i64 slots), (3, .string seed), (11, .slice pb B9.length cb), (12, .slice po O.length co)] ⟨rfl, rfl, rfl, rfl, rfl, rfl, trivial⟩ ?_
 refine g_seq ?_
 refine w_s ?_
 refine w_m ?_
 refine w_v (v := .int .i64 ((O.length : Int))) (x_lenl rfl rfl Tryz.underlying24) ?_
 refine w_m ?_
 refine w_b ?_
 refine w_m ?_
 by_cases hb5 : ((O.length : Int) : Int) < slots
 ·
  refine w_g (decide_eq_true hb5) xm ?_
  refine w_g (v := .int .i64 ((B9.length : Int))) (decide_eq_true hb5) (x_lenl rfl rfl Tryz.underlying22) ?_
  refine w_g (decide_eq_true hb5) (x_bin rfl rfl rfl b_gtr) ?_
  refine w_v (v := .bool (decide ((0 : Int) < (B9.length : Int)))) (x_pick_t rfl rfl (decide_eq_true hb5) rfl) ?_
  refine w_e ?_
  by_cases hb6 : (0 : Int) < (B9.length : Int)
  ·
   refine g_cond_t rfl (decide_eq_true hb6) ?_
   refine g_skip ?_
   refine g_then ?_
   refine g_block ?_
   refine w_s ?_
   refine w_r2 ?_
   have hDB : ∀ x ∈ B9, DV x := fun x hx => validR_D (hval x (List.mem_filter.1 (hP.sub.subset hx)).1)
   have hBl : B9.length ≤ 30 := Nat.le_trans hP.sub.length_le hfl
   have hop := hP.len
   have hOl : O.length = o9.length := by rw [hO, List.length_map]
   have hle := hP.le
   refine l_of (s_call (wt0 rfl) (x_call' rfl rfl cl20) (best4_r B9 pb B9.length cb (by omega) (by omega) hDB _ (H4.rwReads (k := 0) rfl)) ?_)
   rintro _ wq7 ⟨jb, xb, rfl, hBb, H8⟩
   replace H8 : S wq7 [Rw 30 10 pb B9.length cb (fl rvL B9), Rw 3 1 po O.length co (fl intL O), Old w no] := H4.absorb (new := []) H8
   have hjlb := hBb.1
   refine b_ret rfl rfl ?_
   refine w_a ?_
   refine w_e ?_
   refine g_weak [(0, .int .i64 4), (1, .int .i64 round), (2, .int .i64 slots), (3, .string seed), (11, .slice pb B9.length cb), (12, .slice po O.length co), (17, .int .i64 ((jb : Int)))] ⟨rfl, rfl, rfl, rfl, rfl, rfl, rfl, trivial⟩ ?_
   refine g_seq ?_
   refine w_s ?_
   refine w_m ?_
   refine w_b (v := .bool (!decide ((4 : Int) = 3))) (hb := b_neq) ?_
   refine w_m ?_
   refine l_of (s_val (v := .int .i64 round) (wt1 rfl rfl rfl rfl (by decide)) rfl rfl (x_move rfl rfl) ?_)
   refine l_of (s_val (v := .int .i64 (round % 3)) (wt1 rfl rfl rfl rfl (by decide)) rfl rfl (x_bin rfl rfl rfl (b_rem (by omega) (rem0 (by omega)))) ?_)
   refine l_of (s_val (v := .bool (decide ((round % 3 : Int) = 2))) (wt1 rfl rfl rfl rfl (by decide)) rfl rfl (x_bin rfl rfl rfl b_eql) ?_)
   refine w_v (v := .bool (decide ((round % 3 : Int) = 2))) (x_pick_t rfl rfl (by decide) rfl) ?_
   refine w_m ?_
   by_cases hb9 : (round % 3 : Int) = 2
   ·
    refine w_g (decide_eq_true hb9) xm ?_
    refine w_g (v := .int .i64 ((O.length : Int))) (decide_eq_true hb9) (x_lenl rfl rfl Tryz.underlying24) ?_
    refine w_g (decide_eq_true hb9) xm ?_
    refine w_g (v := .int .i64 (slots - 1)) (decide_eq_true hb9) (x_bin rfl rfl rfl (b_sub (w64 (by omega)))) ?_
    refine w_g (decide_eq_true hb9) (x_bin rfl rfl rfl b_eql) ?_
    refine w_v (v := .bool (decide (((O.length : Int) : Int) = slots - 1))) (x_pick_t rfl rfl (decide_eq_true hb9) rfl) ?_
    refine w_e ?_
    refine g_weak [(0, .int .i64 4), (1, .int .i64 round), (2, .int .i64 slots), (3, .string seed), (11, .slice pb B9.length cb), (12, .slice po O.length co), (17, .int .i64 ((jb : Int))), (93, .bool (decide (((O.length : Int) : Int) = slots - 1)))] ⟨rfl, rfl, rfl, rfl, rfl, rfl, rfl, rfl, trivial⟩ ?_
    by_cases hb10 : ((O.length : Int) : Int) = slots - 1
    ·
     refine g_cond_t rfl (decide_eq_true hb10) ?_
     refine g_region ?_
     refine w_r3 ?_
     refine l_of (s_call (wt0 rfl) (x_call' rfl rfl cl25) (lucky_r round seed hsd2 hrd2 B9 pb B9.length cb (by omega) (by omega) hDB _ (H8.rwReads (k := 0) rfl) (H8.tab (k := 2) rfl ht)) ?_)
     rintro _ wq11 ⟨j9, x9, rfl, hB9, H12⟩
     replace H12 : S wq11 [Rw 30 10 pb B9.length cb (fl rvL B9), Rw 3 1 po O.length co (fl intL O), Old w no] := H8.absorb (new := []) H12
     have hjl9 := hB9.1
     refine b_ret rfl rfl ?_
     refine w_a ?_
     refine w_e ?_
     refine w_s ?_
     refine w_r3 ?_
     refine w_v (v := .pointer ((pb).map fun q => q.add (j9 * 10))) (x_idxR j9 (H12.rwReads (k := 0) rfl) rfl rfl rfl Tryz.underlying22 sz30 (by omega)) ?_
     refine w_v (v := .pointer ((pb).map fun q => q.add (j9 * 10 + 0))) (ex_cast (x_fieldAddrG (m := j9 * 10) ((H12.rwReads (k := 0) rfl).some (by omega)) rfl rfl fo30_0) rfl) ?_
     refine w_v (v := .int .i64 (x9.id)) (x_loadF1 (i := 0) (j := j9) rvE (H12.rwReads (k := 0) rfl) hB9.2.1 rfl rfl Tryz.underlying3 rfl rfl) ?_
     refine l_of (s_buildSlice H12 (wt0 rfl) rfl rfl rfl (vs := [.int .i64 (x9.id)]) rfl Tryz.underlying24 sz3 ze3 rfl rfl (cells := #[.int .i64 (x9.id)]) (by kernel_rfl) ?_)
     intro g13 wq14 H15
     have hln20a := (H15.rwReads (k := 2) rfl).lenL intE
     have hln20 : (O ++ [x9.id]).length = O.length + 1 := by simp only [List.length_append, List.length_cons, List.length_nil] <;> omega
     refine l_of (s_appBn (m := 1) (l := O) (l2 := [x9.id]) intE H15 2 (j0 := 0) rfl rfl ⟨rfl, Nat.le_refl _⟩ (wt0 rfl) rfl rfl rfl rfl rfl rfl Tryz.underlying24 inf3 rfl (by decide) (by omega) ?_)
     intro p16 c17 wq18 H19
     refine w_a ?_
     refine w_e ?_
     refine g_weak [(0, .int .i64 4), (1, .int .i64 round), (2, .int .i64 slots), (3, .string seed), (11, .slice pb B9.length cb), (12, .slice p16 ((O ++ [x9.id]).length) c17), (17, .int .i64 ((j9 : Int)))] ⟨rfl, rfl, rfl, rfl, rfl, rfl, rfl, trivial⟩ ?_
     refine g_region ?_
     refine w_r2 ?_
     refine l_of (s_call (wt0 rfl) (x_call' rfl rfl cl21) (without_r B9 pb B9.length cb (by omega) j9 (by omega) _ (H19.rwReads (k := 1) rfl)) ?_)
     rintro _ wq23 ⟨pw21, cw22, rfl, H24⟩
     replace H24 : S wq23 [Rw 30 10 pw21 ((B9.eraseIdx j9).length) cw22 (fl rvL (B9.eraseIdx j9)), Ob g13 (.cells #[.int .i64 (x9.id)] 3 (0, 0)), Rw 30 10 pb B9.length cb (fl rvL B9), Rw 3 1 p16 ((O ++ [x9.id]).length) c17 (fl intL (O ++ [x9.id])), Old w no] := by have h := H19.absorb H24; exact h
     refine b_ret rfl rfl ?_
     refine w_a ?_
     refine g_nil ?_
     refine g_in ?_
     refine g_then ?_
     refine g_round (i := (pb, cb, B9, po, co, O, o9)) (pw21, cw22, (B9.eraseIdx j9), p16, c17, (O ++ [x9.id]), (o9 ++ [x9])) ?_ ?_ ?_
     · exact ⟨rfl, rfl, rfl, rfl, rfl, rfl, trivial⟩
     · exact ⟨(hP.luck (by omega) (by omega) (by omega) hB9), (by rw [hO, List.map_append]; rfl), (H24.takes [0, 3, 4] (by decide))⟩
     · (try dsimp only); rw [List.length_eraseIdx_of_lt hB9.1]; have := hB9.1; omega
    ·
     refine g_cond_f rfl (decide_eq_false hb10) ?_
     refine g_skip ?_
     refine g_then ?_
     refine w_s ?_
     refine w_r3 ?_
     refine w_v (v := .pointer ((pb).map fun q => q.add (jb * 10))) (x_idxR jb (H8.rwReads (k := 0) rfl) rfl rfl rfl Tryz.underlying22 sz30 (by omega)) ?_
     refine w_v (v := .pointer ((pb).map fun q => q.add (jb * 10 + 0))) (ex_cast (x_fieldAddrG (m := jb * 10) ((H8.rwReads (k := 0) rfl).some (by omega)) rfl rfl fo30_0) rfl) ?_
     refine w_v (v := .int .i64 (xb.id)) (x_loadF1 (i := 0) (j := jb) rvE (H8.rwReads (k := 0) rfl) hBb.2.1 rfl rfl Tryz.underlying3 rfl rfl) ?_
     refine l_of (s_buildSlice H8 (wt0 rfl) rfl rfl rfl (vs := [.int .i64 (xb.id)]) rfl Tryz.underlying24 sz3 ze3 rfl rfl (cells := #[.int .i64 (xb.id)]) (by kernel_rfl) ?_)
     intro g25 wq26 H27
     have hln32a := (H27.rwReads (k := 2) rfl).lenL intE
     have hln32 : (O ++ [xb.id]).length = O.length + 1 := by simp only [List.length_append, List.length_cons, List.length_nil] <;> omega
     refine l_of (s_appBn (m := 1) (l := O) (l2 := [xb.id]) intE H27 2 (j0 := 0) rfl rfl ⟨rfl, Nat.le_refl _⟩ (wt0 rfl) rfl rfl rfl rfl rfl rfl Tryz.underlying24 inf3 rfl (by decide) (by omega) ?_)
     intro p28 c29 wq30 H31
     refine w_a ?_
     refine w_e ?_
     refine g_region ?_
     refine w_r2 ?_
     refine l_of (s_call (wt0 rfl) (x_call' rfl rfl cl21) (without_r B9 pb B9.length cb (by omega) jb (by omega) _ (H31.rwReads (k := 1) rfl)) ?_)
     rintro _ wq35 ⟨pw33, cw34, rfl, H36⟩
     replace H36 : S wq35 [Rw 30 10 pw33 ((B9.eraseIdx jb).length) cw34 (fl rvL (B9.eraseIdx jb)), Ob g25 (.cells #[.int .i64 (xb.id)] 3 (0, 0)), Rw 30 10 pb B9.length cb (fl rvL B9), Rw 3 1 p28 ((O ++ [xb.id]).length) c29 (fl intL (O ++ [xb.id])), Old w no] := by have h := H31.absorb H36; exact h
     refine b_ret rfl rfl ?_
     refine w_a ?_
     refine g_nil ?_
     refine g_in ?_
     refine g_then ?_
     refine g_round (i := (pb, cb, B9, po, co, O, o9)) (pw33, cw34, (B9.eraseIdx jb), p28, c29, (O ++ [xb.id]), (o9 ++ [xb])) ?_ ?_ ?_
     · exact ⟨rfl, rfl, rfl, rfl, rfl, rfl, trivial⟩
     · exact ⟨(hP.step (by omega) (by omega) hBb), (by rw [hO, List.map_append]; rfl), (H36.takes [0, 3, 4] (by decide))⟩
     · (try dsimp only); rw [List.length_eraseIdx_of_lt hBb.1]; have := hBb.1; omega
   ·
    refine w_n (decide_eq_false hb9) ?_
    refine w_n (decide_eq_false hb9) ?_
    refine w_n (decide_eq_false hb9) ?_
    refine w_n (decide_eq_false hb9) ?_
    refine w_n (decide_eq_false hb9) ?_
    refine w_v (v := .bool false) (x_pick_f rfl rfl (decide_eq_false hb9) rfl) ?_
    refine w_e ?_
    refine g_weak [(0, .int .i64 4), (1, .int .i64 round), (2, .int .i64 slots), (3, .string seed), (11, .slice pb B9.length cb), (12, .slice po O.length co), (17, .int .i64 ((jb : Int))), (93, .bool false)] ⟨rfl, rfl, rfl, rfl, rfl, rfl, rfl, rfl, trivial⟩ ?_
    refine g_cond_f rfl rfl ?_
    refine g_skip ?_
    refine g_then ?_
    refine w_s ?_
    refine w_r3 ?_
    refine w_v (v := .pointer ((pb).map fun q => q.add (jb * 10))) (x_idxR jb (H8.rwReads (k := 0) rfl) rfl rfl rfl Tryz.underlying22 sz30 (by omega)) ?_
    refine w_v (v := .pointer ((pb).map fun q => q.add (jb * 10 + 0))) (ex_cast (x_fieldAddrG (m := jb * 10) ((H8.rwReads (k := 0) rfl).some (by omega)) rfl rfl fo30_0) rfl) ?_
    refine w_v (v := .int .i64 (xb.id)) (x_loadF1 (i := 0) (j := jb) rvE (H8.rwReads (k := 0) rfl) hBb.2.1 rfl rfl Tryz.underlying3 rfl rfl) ?_
    refine l_of (s_buildSlice H8 (wt0 rfl) rfl rfl rfl (vs := [.int .i64 (xb.id)]) rfl Tryz.underlying24 sz3 ze3 rfl rfl (cells := #[.int .i64 (xb.id)]) (by kernel_rfl) ?_)
    intro g37 wq38 H39
    have hln44a := (H39.rwReads (k := 2) rfl).lenL intE
    have hln44 : (O ++ [xb.id]).length = O.length + 1 := by simp only [List.length_append, List.length_cons, List.length_nil] <;> omega
    refine l_of (s_appBn (m := 1) (l := O) (l2 := [xb.id]) intE H39 2 (j0 := 0) rfl rfl ⟨rfl, Nat.le_refl _⟩ (wt0 rfl) rfl rfl rfl rfl rfl rfl Tryz.underlying24 inf3 rfl (by decide) (by omega) ?_)
    intro p40 c41 wq42 H43
    refine w_a ?_
    refine w_e ?_
    refine g_region ?_
    refine w_r2 ?_
    refine l_of (s_call (wt0 rfl) (x_call' rfl rfl cl21) (without_r B9 pb B9.length cb (by omega) jb (by omega) _ (H43.rwReads (k := 1) rfl)) ?_)
    rintro _ wq47 ⟨pw45, cw46, rfl, H48⟩
    replace H48 : S wq47 [Rw 30 10 pw45 ((B9.eraseIdx jb).length) cw46 (fl rvL (B9.eraseIdx jb)), Ob g37 (.cells #[.int .i64 (xb.id)] 3 (0, 0)), Rw 30 10 pb B9.length cb (fl rvL B9), Rw 3 1 p40 ((O ++ [xb.id]).length) c41 (fl intL (O ++ [xb.id])), Old w no] := by have h := H43.absorb H48; exact h
    refine b_ret rfl rfl ?_
    refine w_a ?_
    refine g_nil ?_
    refine g_in ?_
    refine g_then ?_
    refine g_round (i := (pb, cb, B9, po, co, O, o9)) (pw45, cw46, (B9.eraseIdx jb), p40, c41, (O ++ [xb.id]), (o9 ++ [xb])) ?_ ?_ ?_
    · exact ⟨rfl, rfl, rfl, rfl, rfl, rfl, trivial⟩
    · exact ⟨(hP.step (by omega) (by omega) hBb), (by rw [hO, List.map_append]; rfl), (H48.takes [0, 3, 4] (by decide))⟩
    · (try dsimp only); rw [List.length_eraseIdx_of_lt hBb.1]; have := hBb.1; omega
  ·
   refine g_cond_f rfl (decide_eq_false hb6) ?_
   refine g_exit ?_
   refine g_then_exit ?_
   refine g_then_exit ?_
   refine g_in_hit ?_
   refine g_then ?_
   refine g_weak [(12, .slice po O.length co)] ⟨rfl, trivial⟩ ?_
   refine w_s ?_
   refine w_m ?_
   have hop := hP.len
   have hOl : O.length = o9.length := by rw [hO, List.length_map]
   refine l_of (s_call (wt0 rfl) (x_call' rfl rfl cl35) (asc_r O po O.length co (by omega) _ (H4.takes [1] (by decide))) ?_)
   rintro _ wq49 ⟨rfl, H50⟩
   replace H50 : S wq49 [Rw 3 1 po O.length co (fl intL (sortI O)), Rw 30 10 pb B9.length cb (fl rvL B9), Old w no] := by have h := H4.absorbI [1] H50; exact h
   refine b_ret rfl rfl ?_
   refine w_a ?_
   refine w_e ?_
   refine g_ret ?_
   refine fin_ret [.tmp 10] [.slice po O.length co] rfl ⟨rfl, trivial⟩ ?_
   have hop := hP.len
   have hOl : O.length = o9.length := by rw [hO, List.length_map]
   have hle := hP.le
   have hR : (ratedL round slots seed c4 l) = o9 := rated_is c4_wk (by omega) hnd hsl.1 hP (by omega)
   have he : (sortI ((ratedL round slots seed c4 l).map Rv.id)) = sortI O := by rw [hR, hO]
   have hel : (sortI ((ratedL round slots seed c4 l).map Rv.id)).length = O.length := by rw [he, sortI_len]
   have hok : LetOK slots (l.filter qW) (ratedL round slots seed c4 l) := by rw [hR]; exact hP.ok (by omega)
   rw [hel, he]
   exact ⟨_, _, rfl, hok, H50.takes [0, 2] (by decide)⟩
 ·
  refine w_n (decide_eq_false hb5) ?_
  refine w_n (decide_eq_false hb5) ?_
  refine w_n (decide_eq_false hb5) ?_
  refine w_v (v := .bool false) (x_pick_f rfl rfl (decide_eq_false hb5) rfl) ?_
  refine w_e ?_
  refine g_cond_f rfl rfl ?_
  refine g_exit ?_
  refine g_then_exit ?_
  refine g_then_exit ?_
  refine g_in_hit ?_
  refine g_then ?_
  refine g_weak [(12, .slice po O.length co)] ⟨rfl, trivial⟩ ?_
  refine w_s ?_
  refine w_m ?_
  have hop := hP.len
  have hOl : O.length = o9.length := by rw [hO, List.length_map]
  refine l_of (s_call (wt0 rfl) (x_call' rfl rfl cl35) (asc_r O po O.length co (by omega) _ (H4.takes [1] (by decide))) ?_)
  rintro _ wq51 ⟨rfl, H52⟩
  replace H52 : S wq51 [Rw 3 1 po O.length co (fl intL (sortI O)), Rw 30 10 pb B9.length cb (fl rvL B9), Old w no] := by have h := H4.absorbI [1] H52; exact h
  refine b_ret rfl rfl ?_
  refine w_a ?_
  refine w_e ?_
  refine g_ret ?_
  refine fin_ret [.tmp 10] [.slice po O.length co] rfl ⟨rfl, trivial⟩ ?_
  have hop := hP.len
  have hOl : O.length = o9.length := by rw [hO, List.length_map]
  have hle := hP.le
  have hR : (ratedL round slots seed c4 l) = o9 := rated_is c4_wk (by omega) hnd hsl.1 hP (by omega)
  have he : (sortI ((ratedL round slots seed c4 l).map Rv.id)) = sortI O := by rw [hR, hO]
  have hel : (sortI ((ratedL round slots seed c4 l).map Rv.id)).length = O.length := by rw [he, sortI_len]
  have hok : LetOK slots (l.filter qW) (ratedL round slots seed c4 l) := by rw [hR]; exact hP.ok (by omega)
  rw [hel, he]
  exact ⟨_, _, rfl, hok, H52.takes [0, 2] (by decide)⟩
end Go.Proofs.YthfglkkjkpdkpaaGreatDoor
namespace Go.Proofs.YthfglkkjkpdkpaaGreatDoor
open Go.RowKit

/-! ## Whom each way lets: as many as there are places for, all of them able -/
def IdsOK (slots : Int) (L : List Rv) (ids : List Int) : Prop := ids.length = min slots.toNat L.length ∧ ∀ n ∈ ids, n ∈ L.map Rv.id
theorem LetOK.ids {slots : Int} {L o : List Rv} (h : LetOK slots L o) : IdsOK slots L (sortI (o.map Rv.id)) := by
  refine ⟨by rw [sortI_len, List.length_map]; exact h.1, fun n hn => ?_⟩
  rw [sortI_mem] at hn
  obtain ⟨x, hx, rfl⟩ := List.mem_map.1 hn
  exact List.mem_map.2 ⟨x, h.2 x hx, rfl⟩
theorem reg1_nodup {l : List Rv} (hn : (l.map Rv.id).Nodup) (slots : Int) : ((reg1 l slots).map Rv.id).Nodup := by
  unfold reg1 sorted1
  refine List.Nodup.sublist ((List.take_sublist ..).map Rv.id) ?_
  refine ((srt_perm Rv.zero c1 _).map Rv.id).nodup_iff.2 ?_
  exact hn.sublist (List.filter_sublist.map Rv.id)
theorem reg1_mem {l : List Rv} {slots : Int} {x : Rv} (h : x ∈ reg1 l slots) : x ∈ l.filter qW := by
  unfold reg1 sorted1 at h
  have h1 := List.mem_of_mem_take h
  rw [srt_mem] at h1
  obtain ⟨h2, h3⟩ := List.mem_filter.1 h1
  refine List.mem_filter.2 ⟨h2, ?_⟩
  unfold qR at h3; unfold qW
  simp only [Bool.and_eq_true] at h3 ⊢
  exact h3.1
theorem rest1_len {l : List Rv} (hn : (l.map Rv.id).Nodup) (slots : Int) : (reg1 l slots).length + (rest1 l slots).length = (l.filter qW).length := by
  have h1 : (((l.filter qW).filter fun x => decide (x.id ∈ (reg1 l slots).map Rv.id)).map Rv.id).Perm ((reg1 l slots).map Rv.id) := by
    refine (List.perm_ext_iff_of_nodup ?_ (reg1_nodup hn slots)).2 fun n => ⟨fun h => ?_, fun h => ?_⟩
    · exact hn.sublist ((List.filter_sublist.trans List.filter_sublist).map Rv.id)
    · obtain ⟨x, hx, rfl⟩ := List.mem_map.1 h
      exact of_decide_eq_true (List.mem_filter.1 hx).2
    · obtain ⟨x, hx, rfl⟩ := List.mem_map.1 h
      exact List.mem_map.2 ⟨x, List.mem_filter.2 ⟨reg1_mem hx, decide_eq_true (List.mem_map.2 ⟨x, hx, rfl⟩)⟩, rfl⟩
  have h2 := h1.length_eq
  rw [List.length_map, List.length_map] at h2
  have h3 := List.length_eq_countP_add_countP (fun x : Rv => decide (x.id ∈ (reg1 l slots).map Rv.id)) (l := l.filter qW)
  rw [List.countP_eq_length_filter, List.countP_eq_length_filter] at h3
  unfold rest1
  have h4 : (l.filter qW).filter (fun a => decide (¬ decide (a.id ∈ (reg1 l slots).map Rv.id) = true)) = (l.filter qW).filter fun x => !decide (x.id ∈ (reg1 l slots).map Rv.id) := List.filter_congr fun x _ => by
    cases decide (x.id ∈ (reg1 l slots).map Rv.id) <;> rfl
  rw [h4] at h3
  omega
theorem let1_ok {l : List Rv} (hn : (l.map Rv.id).Nodup) {round slots : Int} (hs : 0 ≤ slots) (seed : ByteArray) : LetOK slots (l.filter qW) (let1 round slots seed l) := by
  have h1 := rest1_len hn slots
  have h2 : (reg1 l slots).length ≤ (slots - 1).toNat := by unfold reg1; rw [List.length_take]; omega
  refine ⟨?_, fun x hx => ?_⟩
  · unfold let1
    rw [List.length_append, List.length_take, srt_len]
    omega
  · unfold let1 at hx
    rcases List.mem_append.1 hx with hx | hx
    · exact reg1_mem hx
    · have := List.mem_of_mem_take hx
      rw [srt_mem] at this
      exact (List.mem_filter.1 this).1
theorem sorted3_ok (l : List Rv) (slots : Int) : LetOK slots (l.filter qI) ((sorted3 l).take (min (sorted3 l).length slots.toNat)) := by
  have h := srt_len Rv.zero c3 (l.filter qI)
  refine ⟨?_, fun x hx => ?_⟩
  · unfold sorted3; rw [List.length_take]; omega
  · have := List.mem_of_mem_take hx
    unfold sorted3 at this
    rw [srt_mem] at this; exact this
def ableW (way : Int) (l : List Rv) : List Rv := if way = 3 then l.filter qI else l.filter qW
theorem let_r (way : Int) (hw : 1 ≤ way ∧ way ≤ 4) (round slots : Int) (seed : ByteArray) (hsd2 : seed.size ≤ 200) (hrd2 : 0 ≤ round ∧ round ≤ 9223372036854775807) (hsl : 0 ≤ slots ∧ slots ≤ 100) (l : List Rv) (p : Option Addr) (n c : Nat) (hn2 : n ≤ 30) (hval : ∀ x ∈ l, validR x = true) (hnd : (l.map Rv.id).Nodup) (w : World) (hr : Reads w p n c 10 (fl rvL l)) (ht : PowTab w) :
    Calls Tryz.prog 23 #[.int .i64 way, .int .i64 round, .int .i64 slots, .string seed, .slice p n c] w fun e w' => ∃ p' c', e = .returned (.slice p' (idsW way round slots seed l).length c') ∧ IdsOK slots (ableW way l) (idsW way round slots seed l) ∧ S w' ([Rw 3 1 p' (idsW way round slots seed l).length c' (fl intL (idsW way round slots seed l))] ++ [Old w no]) := by
  have hnl := hr.lenL rvE
  have h4 : way = 1 ∨ way = 2 ∨ way = 3 ∨ way = 4 := by omega
  rcases h4 with rfl | rfl | rfl | rfl
  · have e : idsW 1 round slots seed l = sortI ((let1 round slots seed l).map Rv.id) := by
      show ids1 round slots seed l = _
      unfold ids1
      rw [way1_eq (by omega) hnd]
    rw [e]
    exact (let1_r round slots seed hsd2 hrd2 hsl l p n c hn2 hval w hr ht).mono fun e w' ⟨p', c', h1, h2⟩ => ⟨p', c', h1, (let1_ok hnd hsl.1 seed).ids, h2⟩
  · exact (let2_r round slots seed hsd2 hrd2 hsl l p n c hn2 hval hnd w hr ht).mono fun e w' ⟨p', c', h1, h3, h2⟩ => ⟨p', c', h1, h3.ids, h2⟩
  · exact (let3_r round slots seed hsl l p n c hn2 hval w hr).mono fun e w' ⟨p', c', h1, h2⟩ => ⟨p', c', h1, (sorted3_ok l slots).ids, h2⟩
  · exact (let4_r round slots seed hsd2 hrd2 hsl l p n c hn2 hval hnd w hr ht).mono fun e w' ⟨p', c', h1, h3, h2⟩ => ⟨p', c', h1, h3.ids, h2⟩
end Go.Proofs.YthfglkkjkpdkpaaGreatDoor
