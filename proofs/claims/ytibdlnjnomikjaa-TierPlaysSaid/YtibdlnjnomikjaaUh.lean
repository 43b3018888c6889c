import Derived.Test.YtibdlnjnomikjaaFk
import Derived.Test.YtibdlnjnomikjaaUg
set_option linter.unusedSimpArgs false
set_option linter.unusedVariables false
namespace Go.Proofs.Ytibdlnjnomikjaa
open Go.RowKit

theorem inf85 : infO Try.prog 85 = some (some (.slice none 0 0), 1, 24) := by kernel_rfl
theorem ze85 : zeO Try.prog 85 = some (.slice none 0 0) := by kernel_rfl
theorem S.tkPut2 {w : World} {L : List Item} {rs : List (Ro Tk)} {i g C c : Nat} {P p : Option Addr} {l : List Tk} {a b c1 d e f x y z : Value} (hi : i < rs.length)
    (h : S w (Rw 87 5 p l.length c (fl tkL l) :: RowsI 87 5 tkL (rs.eraseIdx i) :: Rw 85 1 P rs.length C (fl rowL (rs.set i ⟨p, c, l⟩)) :: Ob g (.cells #[.slice P rs.length C, a, b, c1, d, e, f, x, y, z] 84 (0, 0)) :: L)) :
    S w (Ob g (.cells #[.slice P (rs.set i ⟨p, c, l⟩).length C, a, b, c1, d, e, f, x, y, z] 84 (0, 0)) :: Rw 85 1 P (rs.set i ⟨p, c, l⟩).length C (fl rowL (rs.set i ⟨p, c, l⟩)) :: RowsI 87 5 tkL (rs.set i ⟨p, c, l⟩) :: L) := by
  have h2 := S.rowsIn (r := ⟨p, c, l⟩) h hi
  rw [List.length_set]
  exact h2.perm (.trans (.trans (.cons _ (.swap _ _ _)) (.swap _ _ _)) (.cons _ (.swap _ _ _)))
theorem S.tkNil {w : World} {L : List Item} {rs : List (Ro Tk)} (h : S w (RowsI 87 5 tkL rs :: L)) : S w (RowsI 87 5 tkL (rs ++ [(⟨none, 0, []⟩ : Ro Tk)]) :: L) :=
  S.rowsSnoc ((S.nilFl h 87 5 tkL).perm (.swap _ _ _))
theorem last_T {rs : List (Ro Tk)} {q : Ro Tk} : ((rs ++ [q]).map fun r => r.l) = (rs.map fun r => r.l) ++ [q.l] := by rw [List.map_append]; rfl
set_option maxRecDepth 20000 in
set_option maxHeartbeats 4000000 in
theorem add_Rk {g C : Nat} {P : Option Addr} {rs : List (Ro Tk)} {now ev hol : Int} {nm : ByteArray} {und beg who dne stp : Bool} (hrs : rs.length ≤ 20) (hrl : ∀ r ∈ rs, r.l.length ≤ 20) {s : ByteArray} {m : Nat} (hm : m ≤ rs.length)  (w : World) (HS : S w [Ob g (.cells #[.slice P rs.length C, .int .i64 now, .bool und, .string nm, .int .i64 ev, .bool beg, .bool who, .bool dne, .bool stp, .int .i64 hol] 84 (0, 0)), Rw 85 1 P rs.length C (fl rowL rs), RowsI 87 5 tkL rs]) : Calls Try.prog 46 #[.pointer (some ⟨g, 0, none⟩), .int .i64 ((m : Int)), .string s] w fun e w' => ∃ (P' : Option Addr) (C' : Nat) (rs' : List (Ro Tk)) (now' : Int) (und' : Bool) (nm' : ByteArray) (ev' : Int) (beg' who' dne' stp' : Bool) (hol' : Int), RPS rs' now' und' nm' ev' beg' who' dne' stp' hol' = addA (RPS rs now und nm ev beg who dne stp hol) m s ∧ e = .returned (.int .i64 (addE (RPS rs now und nm ev beg who dne stp hol) m s)) ∧ S w' ([Ob g (.cells #[.slice P' rs'.length C', .int .i64 (now'), .bool und', .string (nm'), .int .i64 (ev'), .bool beg', .bool who', .bool dne', .bool stp', .int .i64 (hol')] 84 (0, 0)), Rw 85 1 P' rs'.length C' (fl rowL rs'), RowsI 87 5 tkL rs'] ++ [Old w (fps [Ob g (.cells #[.slice P rs.length C, .int .i64 now, .bool und, .string nm, .int .i64 ev, .bool beg, .bool who, .bool dne, .bool stp, .int .i64 hol] 84 (0, 0)), Rw 85 1 P rs.length C (fl rowL rs), RowsI 87 5 tkL rs])]) := by
 have H0 := HS.beginI
 refine enter 82 Try.func46 rfl rfl rfl ?_
 refine g_weak [(0, .pointer (some ⟨g, 0, none⟩)), (1, .int .i64 ((m : Int))), (2, .string s)] ⟨rfl, rfl, rfl, trivial⟩ ?_
 refine w_s ?_
 refine w_a ?_
 refine w_e ?_
 refine g_seq ?_
 refine g_block ?_
 refine w_s ?_
 refine w_m ?_
 refine w_b (v := .bool false) (hb := (b_eqN (r := false) Try.underlying48 rfl)) ?_
 refine w_m ?_
 refine w_g rfl xm ?_
 refine l_of (s_call0 H0 (wt1 rfl rfl rfl rfl rfl) (x_call' rfl rfl cl59) (name_r s _) rfl rfl ?_)
 intro wq1 H2
 refine w_g (v := .bool (!((textS s)))) rfl (x_not (b := (textS s)) rfl rfl) ?_
 refine w_v (v := .bool (!((textS s)))) (x_pick_f rfl rfl rfl rfl) ?_
 refine w_a ?_
 refine w_e ?_
 rcases Bool.eq_false_or_eq_true ((textS s)) with hb3 | hb3
 ·
  refine g_cond_f rfl (neg_of hb3) ?_
  refine w_s ?_
  refine w_m ?_
  refine w_b ?_
  refine w_m ?_
  refine l_of (s_val (v := .int .i64 ((m : Int))) (wt1 rfl rfl rfl rfl (decide_eq_false (by omega))) rfl rfl (x_move rfl rfl) ?_)
  refine l_of (s_val (v := .pointer (some ⟨g, 0, none⟩)) (wt1 rfl rfl rfl rfl (decide_eq_false (by omega))) rfl rfl (x_move rfl rfl) ?_)
  refine l_of (s_val (v := .pointer (some ⟨g, 0, none⟩)) (wt1 rfl rfl rfl rfl (decide_eq_false (by omega))) rfl rfl (x_nilCheck rfl rfl) ?_)
  refine l_of (s_val (v := .pointer (some ⟨g, 0, none⟩)) (wt1 rfl rfl rfl rfl (decide_eq_false (by omega))) rfl rfl (x_fieldAddr rfl rfl fo84_0 rfl) ?_)
  refine l_of (s_val (v := .slice P rs.length C) (wt1 rfl rfl rfl rfl (decide_eq_false (by omega))) rfl rfl (x_load1 H2 0 rfl rfl Try.underlying82 rfl rfl rfl) ?_)
  refine l_of (s_val (v := .int .i64 ((rs.length : Int))) (wt1 rfl rfl rfl rfl (decide_eq_false (by omega))) rfl rfl (x_lenl rfl rfl Try.underlying82) ?_)
  refine l_of (s_val (v := .bool (decide (((rs.length : Int) : Int) < (m : Int)))) (wt1 rfl rfl rfl rfl (decide_eq_false (by omega))) rfl rfl (x_bin rfl rfl rfl b_gtr) ?_)
  refine w_v (v := .bool (decide (((rs.length : Int) : Int) < (m : Int)))) (x_pick_f rfl rfl (decide_eq_false (by omega)) rfl) ?_
  refine w_a ?_
  refine w_e ?_
  refine g_weak [(0, .pointer (some ⟨g, 0, none⟩)), (1, .int .i64 ((m : Int))), (2, .string s), (18, .bool (decide (((rs.length : Int) : Int) < (m : Int))))] ⟨rfl, rfl, rfl, rfl, trivial⟩ ?_
  refine g_cond_f rfl (decide_eq_false (by omega)) ?_
  refine g_skip ?_
  refine g_in ?_
  refine g_then ?_
  refine g_seq ?_
  refine w_s ?_
  refine w_r2 ?_
  refine l_of (s_call (wt0 rfl) (x_call' rfl rfl cl62) (place_r hrs hrl (s := s) _ (H2.takes [0, 1, 2] (by decide))) ?_)
  rintro ee12 wq10 hor13
  rcases hor13 with ⟨i4, k5, r6, x7, hr6, hx7, hfx8, rfl, H11⟩ | ⟨hno9, rfl, H11⟩
  ·
   replace H11 : S wq10 [Ob g (.cells #[.slice P rs.length C, .int .i64 now, .bool und, .string nm, .int .i64 ev, .bool beg, .bool who, .bool dne, .bool stp, .int .i64 hol] 84 (0, 0)), Rw 85 1 P rs.length C (fl rowL rs), RowsI 87 5 tkL rs, Old w (fps [Ob g (.cells #[.slice P rs.length C, .int .i64 now, .bool und, .string nm, .int .i64 ev, .bool beg, .bool who, .bool dne, .bool stp, .int .i64 hol] 84 (0, 0)), Rw 85 1 P rs.length C (fl rowL rs), RowsI 87 5 tkL rs])] := by have h := H2.absorbI [0, 1, 2] H11; exact h
   have hrlr6 := hrl r6 (List.mem_of_getElem? hr6)
   have hkl := (List.getElem?_eq_some_iff.1 hx7).1
   have hil := (List.getElem?_eq_some_iff.1 hr6).1
   refine b_ret rfl rfl ?_
   refine w_r7 ?_
   refine w_e ?_
   refine w_s ?_
   refine w_m ?_
   refine w_e ?_
   refine g_cond_t rfl rfl ?_
   refine w_s ?_
   refine w_a ?_
   refine w_e ?_
   refine g_weak [(6, .int .i64 6)] ⟨rfl, trivial⟩ ?_
   refine g_ret ?_
   refine g_then_ret ?_
   refine fin_ret [.tmp 6] [.int .i64 6] rfl ⟨rfl, trivial⟩ ?_
   have hE : addE (RPS rs now und nm ev beg who dne stp hol) m s = 6 := by unfold addE; rw [if_neg (by rw [hb3]; decide), if_neg (by show ¬ ((m : Int) < 0 ∨ (((rs.map fun r => r.l).length : Nat) : Int) < m); rw [List.length_map]; omega)]; rw [if_pos (by rw [hfx8]; simp)]
   exact ⟨P, C, rs, now, und, nm, ev, beg, who, dne, stp, hol, (by unfold addA; rw [if_neg (by rw [hE]; decide)]), (by rw [hE]; rfl), H11.takes [0, 1, 2, 3] (by decide)⟩
  ·
   replace H11 : S wq10 [Ob g (.cells #[.slice P rs.length C, .int .i64 now, .bool und, .string nm, .int .i64 ev, .bool beg, .bool who, .bool dne, .bool stp, .int .i64 hol] 84 (0, 0)), Rw 85 1 P rs.length C (fl rowL rs), RowsI 87 5 tkL rs, Old w (fps [Ob g (.cells #[.slice P rs.length C, .int .i64 now, .bool und, .string nm, .int .i64 ev, .bool beg, .bool who, .bool dne, .bool stp, .int .i64 hol] 84 (0, 0)), Rw 85 1 P rs.length C (fl rowL rs), RowsI 87 5 tkL rs])] := by have h := H2.absorbI [0, 1, 2] H11; exact h
   refine b_ret rfl rfl ?_
   refine w_r7 ?_
   refine w_e ?_
   refine w_s ?_
   refine w_m ?_
   refine w_e ?_
   refine g_cond_f rfl rfl ?_
   refine g_skip ?_
   refine g_then ?_
   refine g_weak [(0, .pointer (some ⟨g, 0, none⟩)), (1, .int .i64 ((m : Int))), (2, .string s)] ⟨rfl, rfl, rfl, trivial⟩ ?_
   refine g_seq ?_
   refine w_s ?_
   refine w_r4 ?_
   refine w_1 H11 0 ?_
   refine w_v (v := .int .i64 ((rs.length : Int))) (x_lenl rfl rfl Try.underlying82) ?_
   refine w_b ?_
   refine w_e ?_
   by_cases hb14 : ((m : Int) : Int) = (rs.length : Int)
   ·
    refine g_cond_t rfl (decide_eq_true hb14) ?_
    refine g_seq ?_
    refine w_s ?_
    refine w_m ?_
    refine w_b ?_
    refine w_e ?_
    by_cases hb15 : (20 : Int) ≤ (m : Int)
    ·
     refine g_cond_t rfl (decide_eq_true hb15) ?_
     refine w_s ?_
     refine w_a ?_
     refine w_e ?_
     refine g_weak [(6, .int .i64 4)] ⟨rfl, trivial⟩ ?_
     refine g_ret ?_
     refine g_then_ret ?_
     refine g_then_ret ?_
     refine fin_ret [.tmp 6] [.int .i64 4] rfl ⟨rfl, trivial⟩ ?_
     have hE : addE (RPS rs now und nm ev beg who dne stp hol) m s = 4 := by unfold addE; rw [if_neg (by rw [hb3]; decide), if_neg (by show ¬ ((m : Int) < 0 ∨ (((rs.map fun r => r.l).length : Nat) : Int) < m); rw [List.length_map]; omega)]; rw [if_neg (by rw [hno9]; simp)]; rw [show (RPS rs now und nm ev beg who dne stp hol).T = (rs.map fun r => r.l) from rfl]; rw [if_pos (.inl (by omega))]
     exact ⟨P, C, rs, now, und, nm, ev, beg, who, dne, stp, hol, (by unfold addA; rw [if_neg (by rw [hE]; decide)]), (by rw [hE]; rfl), H11.takes [0, 1, 2, 3] (by decide)⟩
    ·
     refine g_cond_f rfl (decide_eq_false hb15) ?_
     refine g_skip ?_
     refine g_then ?_
     refine g_region ?_
     refine w_r4 ?_
     refine w_1 H11 0 ?_
     refine l_of (s_buildSlice H11 (wt0 rfl) rfl rfl rfl (vs := [.slice none 0 0]) rfl Try.underlying82 sz85 ze85 rfl rfl (cells := #[.slice none 0 0]) (by kernel_rfl) ?_)
     intro g16 wq17 H18
     have hln23a := (H18.rwReads (k := 2) rfl).lenL rowE
     have hln23 : (rs ++ [(⟨none, 0, []⟩ : Ro Tk)]).length = rs.length + 1 := by simp only [List.length_append, List.length_cons, List.length_nil] <;> omega
     refine l_of (s_appBn (m := 1) (l := rs) (l2 := [(⟨none, 0, []⟩ : Ro Tk)]) rowE H18 2 (j0 := 0) rfl rfl ⟨rfl, Nat.le_refl _⟩ (wt0 rfl) rfl rfl rfl rfl rfl rfl Try.underlying82 inf85 rfl (by decide) (by omega) ?_)
     intro p19 c20 wq21 H22
     refine w_r2 ?_
     refine l_of (w_st #[.slice p19 ((rs ++ [(⟨none, 0, []⟩ : Ro Tk)]).length) c20, .int .i64 now, .bool und, .string nm, .int .i64 ev, .bool beg, .bool who, .bool dne, .bool stp, .int .i64 hol] H22 1 ?_)
     intro wq24 H25
     refine w_e ?_
     refine g_weak [(0, .pointer (some ⟨g, 0, none⟩)), (1, .int .i64 ((m : Int))), (2, .string s)] ⟨rfl, rfl, rfl, trivial⟩ ?_
     refine g_seq ?_
     refine w_s ?_
     have H26 := S.tkNil (H25.takes [3, 0, 1, 2, 4] (by decide))
     refine w_r3 ?_
     refine w_1 H26 2 ?_
     refine w_m ?_
     refine w_v (v := .pointer ((p19).map fun q => q.add (m * 1))) (x_idxR m (H26.rwReads (k := 3) rfl) rfl rfl rfl Try.underlying82 sz85 (by omega)) ?_
     have hlq := (H26.rwReads (k := 3) rfl).lenL rowE
     obtain ⟨x27, hx27⟩ := ex_at (l := (rs ++ [(⟨none, 0, []⟩ : Ro Tk)])) (j := m) (by omega)
     clear hlq
     have hx27e : x27 = (⟨none, 0, []⟩ : Ro Tk) := by have h9 := hx27; rw [List.getElem?_append_right (by omega), show m - rs.length = 0 from by omega] at h9; exact (Option.some.inj h9).symm
     have hrlx27 : x27.l.length = 0 := by rw [hx27e]; rfl
     refine w_v (v := .slice x27.p x27.l.length x27.c) (x_loadR1 m (H26.rwReads (k := 3) rfl) (by omega) rfl rfl Try.underlying85 rfl (rowE.flAt1 hx27 rfl)) ?_
     refine w_v (v := .int .i64 ((x27.l.length : Int))) (x_lenl rfl rfl Try.underlying85) ?_
     have H28 := S.rowsOut (H26.takes [0, 1, 2, 3, 4] (by decide)) hx27
     refine w_b ?_
     refine w_e ?_
     by_cases hb29 : (20 : Int) ≤ (x27.l.length : Int)
     ·
      refine g_cond_t rfl (decide_eq_true hb29) ?_
      refine w_s ?_
      refine w_a ?_
      refine w_e ?_
      refine g_weak [(6, .int .i64 4)] ⟨rfl, trivial⟩ ?_
      refine g_ret ?_
      refine g_then_ret ?_
      refine fin_ret [.tmp 6] [.int .i64 4] rfl ⟨rfl, trivial⟩ ?_
      omega
     ·
      refine g_cond_f rfl (decide_eq_false hb29) ?_
      refine g_skip ?_
      refine g_then ?_
      refine g_seq ?_
      refine g_any [] (fun wx => S wx [RowsI 87 5 tkL ((rs ++ [(⟨none, 0, []⟩ : Ro Tk)]).eraseIdx m), Ob g16 (.cells #[.slice none 0 0] 85 (0, 0)), Ob g (.cells #[.slice p19 ((rs ++ [(⟨none, 0, []⟩ : Ro Tk)]).length) c20, .int .i64 now, .bool und, .string nm, .int .i64 ev, .bool beg, .bool who, .bool dne, .bool stp, .int .i64 hol] 84 (0, 0)), Rw 85 1 p19 ((rs ++ [(⟨none, 0, []⟩ : Ro Tk)]).length) c20 (fl rowL (rs ++ [(⟨none, 0, []⟩ : Ro Tk)])), Old w (fps [Ob g (.cells #[.slice P rs.length C, .int .i64 now, .bool und, .string nm, .int .i64 ev, .bool beg, .bool who, .bool dne, .bool stp, .int .i64 hol] 84 (0, 0)), Rw 85 1 P rs.length C (fl rowL rs), RowsI 87 5 tkL rs])]) [17] (by kernel_rfl) H28 (fun wq30 H31 => ?_)
      have cm1 := H31.mask [false, true, true, true, true, true]
      refine w_t 0 rfl cm1 (fun _ _ => xm) ?_
      refine w_t 1 rfl cm1 (fun _ _ => xn) ?_
      refine w_t 2 rfl cm1 (fun _ _ => xf 0) ?_
      refine w_t 3 rfl cm1 (fun _ H => xl H 2) ?_
      refine w_t 4 rfl cm1 (fun _ _ => xm) ?_
      refine w_t 5 rfl cm1 (fun _ _ => xm) ?_
      refine w_t 6 rfl cm1 (fun _ _ => xn) ?_
      refine w_t 7 rfl cm1 (fun _ _ => xf 0) ?_
      refine w_t 8 rfl cm1 (fun _ H => xl H 2) ?_
      refine w_t 9 rfl cm1 (fun _ _ => xm) ?_
      refine w_t (v := .pointer ((p19).map fun q => q.add (m * 1))) 10 rfl cm1 (fun _ _ => x_idxP m ((H31.rwReads (k := 4) rfl).some (by omega)) rfl rfl rfl Try.underlying82 sz85 (by omega)) ?_
      refine w_t (v := .slice x27.p x27.l.length x27.c) 11 rfl cm1 (fun _ H => x_loadR1 m (H.rwReads (k := 3) rfl) (by omega) rfl rfl Try.underlying85 rfl (rowE.flAt1 hx27 rfl)) ?_
      refine w_t 12 rfl cm1 (fun _ _ => xm) ?_
      refine w_t (v := .agg #[.string s, .int .i64 0, .int .i64 0, .bool false, .bool false]) 13 rfl cm1 (fun _ _ => x_build (vs := [.string s]) rfl rfl (cells := #[.string s, .int .i64 0, .int .i64 0, .bool false, .bool false]) (by kernel_rfl)) ?_
      refine a_one (i := 14) (by kernel_rfl) rfl ?_
      refine s_buildSlice H31 (wt0 rfl) rfl rfl rfl (vs := [.agg #[.string s, .int .i64 0, .int .i64 0, .bool false, .bool false]]) rfl Try.underlying85 sz87 ze87 rfl rfl (cells := #[.string s, .int .i64 0, .int .i64 0, .bool false, .bool false]) (by kernel_rfl) ?_
      intro g32 wq33 H34
      refine a_k (H34.mask [false, false, true, true, true, true, true]) ?_
      refine a_one (i := 15) (by kernel_rfl) rfl ?_
      have hln39a := (H34.rwReads (k := 1) rfl).lenL tkE
      have hln39 : (x27.l ++ [(⟨s, 0, 0, false, false⟩ : Tk)]).length = x27.l.length + 1 := by simp only [List.length_append, List.length_cons, List.length_nil] <;> omega
      refine s_appBn (m := 1) (l := x27.l) (l2 := [(⟨s, 0, 0, false, false⟩ : Tk)]) tkE H34 1 (j0 := 0) rfl rfl ⟨rfl, Nat.le_refl _⟩ (wt0 rfl) rfl rfl rfl rfl rfl rfl Try.underlying85 inf87 rfl (by decide) (by omega) ?_
      intro p35 c36 wq37 H38
      have cm2 := H38.mask [false, false, true, true, true, true, true]
      refine a_k cm2 ?_
      refine w_t (v := .pointer ((p19).map fun q => q.add (m * 1))) 16 rfl cm2 (fun _ _ => x_idxP m ((H38.rwReads (k := 5) rfl).some (by omega)) rfl rfl rfl Try.underlying82 sz85 (by omega)) ?_
      refine a_one (i := 17) (by kernel_rfl) rfl ?_
      refine s_stoL (j := m) rowE (⟨p35, c36, (x27.l ++ [(⟨s, 0, 0, false, false⟩ : Tk)])⟩ : Ro Tk) H38 5 (wt0 rfl) rfl rfl rfl rfl rfl rfl sz85 (by omega) ?_
      intro wq40 H41
      refine a_kt rfl ?_
      refine a_done (by kernel_rfl) ?_
      refine g_then ?_
      refine g_weak [] trivial ?_
      refine w_s ?_
      refine w_a ?_
      refine w_e ?_
      refine g_ret ?_
      refine fin_ret [.tmp 6] [.int .i64 0] rfl ⟨rfl, trivial⟩ ?_
      have H42 := S.tkPut2 (rs := (rs ++ [(⟨none, 0, []⟩ : Ro Tk)])) (i := m) (l := (x27.l ++ [(⟨s, 0, 0, false, false⟩ : Tk)])) (by omega) (H41.takes [1, 2, 5, 4, 6] (by decide))
      have hE : addE (RPS rs now und nm ev beg who dne stp hol) m s = 0 := by unfold addE; rw [if_neg (by rw [hb3]; decide), if_neg (by show ¬ ((m : Int) < 0 ∨ (((rs.map fun r => r.l).length : Nat) : Int) < m); rw [List.length_map]; omega)]; rw [if_neg (by rw [hno9]; simp)]; rw [show (RPS rs now und nm ev beg who dne stp hol).T = (rs.map fun r => r.l) from rfl]; rw [if_neg (by rw [List.length_map]; omega)]
      exact ⟨p19, c20, ((rs ++ [(⟨none, 0, []⟩ : Ro Tk)]).set m (⟨p35, c36, (x27.l ++ [(⟨s, 0, 0, false, false⟩ : Tk)])⟩ : Ro Tk)), now, und, nm, ev, beg, who, dne, stp, hol, (by unfold addA; rw [if_pos hE, if_pos (by rw [show (RPS rs now und nm ev beg who dne stp hol).T = (rs.map fun r => r.l) from rfl, List.length_map]; omega)]; unfold RPS; rw [set_T, last_T, hx27e, List.set_append_right _ _ (by rw [List.length_map]; omega), List.length_map, show m - rs.length = 0 from by omega]; rfl), (by rw [hE]; rfl), H42.takes [0, 1, 2, 3] (by decide)⟩
   ·
    refine g_cond_f rfl (decide_eq_false hb14) ?_
    refine g_skip ?_
    refine g_then ?_
    refine g_seq ?_
    refine w_s ?_
    refine w_r3 ?_
    refine w_1 H11 0 ?_
    refine w_m ?_
    refine w_v (v := .pointer ((P).map fun q => q.add (m * 1))) (x_idxR m (H11.rwReads (k := 1) rfl) rfl rfl rfl Try.underlying82 sz85 (by omega)) ?_
    have hlq := (H11.rwReads (k := 1) rfl).lenL rowE
    obtain ⟨x43, hx43⟩ := ex_at (l := rs) (j := m) (by omega)
    clear hlq
    have hrlx43 := hrl x43 (List.mem_of_getElem? hx43)
    refine w_v (v := .slice x43.p x43.l.length x43.c) (x_loadR1 m (H11.rwReads (k := 1) rfl) (by omega) rfl rfl Try.underlying85 rfl (rowE.flAt1 hx43 rfl)) ?_
    refine w_v (v := .int .i64 ((x43.l.length : Int))) (x_lenl rfl rfl Try.underlying85) ?_
    have H44 := S.rowsOut (H11.takes [2, 0, 1, 3] (by decide)) hx43
    refine w_b ?_
    refine w_e ?_
    refine g_weak [(0, .pointer (some ⟨g, 0, none⟩)), (1, .int .i64 ((m : Int))), (2, .string s), (64, .bool (decide ((20 : Int) ≤ (x43.l.length : Int))))] ⟨rfl, rfl, rfl, rfl, trivial⟩ ?_
    by_cases hb45 : (20 : Int) ≤ (x43.l.length : Int)
    ·
     refine g_cond_t rfl (decide_eq_true hb45) ?_
     refine w_s ?_
     refine w_a ?_
     refine w_e ?_
     refine g_ret ?_
     refine g_then_ret ?_
     refine fin_ret [.tmp 6] [.int .i64 4] rfl ⟨rfl, trivial⟩ ?_
     have H46 := S.rowsIn (r := x43) (rs := rs) (j := m) (e := 87) (size := 5) (enc := tkL) (H44.takes [0, 1, 2, 3, 4] (by decide)) (by omega)
     rw [set_self hx43] at H46
     replace H46 : S wq10 [RowsI 87 5 tkL rs, Ob g (.cells #[.slice P rs.length C, .int .i64 now, .bool und, .string nm, .int .i64 ev, .bool beg, .bool who, .bool dne, .bool stp, .int .i64 hol] 84 (0, 0)), Rw 85 1 P rs.length C (fl rowL rs), Old w (fps [Ob g (.cells #[.slice P rs.length C, .int .i64 now, .bool und, .string nm, .int .i64 ev, .bool beg, .bool who, .bool dne, .bool stp, .int .i64 hol] 84 (0, 0)), Rw 85 1 P rs.length C (fl rowL rs), RowsI 87 5 tkL rs])] := H46
     have hE : addE (RPS rs now und nm ev beg who dne stp hol) m s = 4 := by unfold addE; rw [if_neg (by rw [hb3]; decide), if_neg (by show ¬ ((m : Int) < 0 ∨ (((rs.map fun r => r.l).length : Nat) : Int) < m); rw [List.length_map]; omega)]; rw [if_neg (by rw [hno9]; simp)]; rw [show (RPS rs now und nm ev beg who dne stp hol).T = (rs.map fun r => r.l) from rfl]; rw [if_pos (.inr ⟨by rw [List.length_map]; omega, by rw [Int.toNat_natCast, getD_T hx43]; omega⟩)]
     exact ⟨P, C, rs, now, und, nm, ev, beg, who, dne, stp, hol, (by unfold addA; rw [if_neg (by rw [hE]; decide)]), (by rw [hE]; rfl), H46.takes [1, 2, 0, 3] (by decide)⟩
    ·
     refine g_cond_f rfl (decide_eq_false hb45) ?_
     refine g_skip ?_
     refine g_then ?_
     refine g_seq ?_
     refine g_any [] (fun wx => S wx [RowsI 87 5 tkL (rs.eraseIdx m), Ob g (.cells #[.slice P rs.length C, .int .i64 now, .bool und, .string nm, .int .i64 ev, .bool beg, .bool who, .bool dne, .bool stp, .int .i64 hol] 84 (0, 0)), Rw 85 1 P rs.length C (fl rowL rs), Old w (fps [Ob g (.cells #[.slice P rs.length C, .int .i64 now, .bool und, .string nm, .int .i64 ev, .bool beg, .bool who, .bool dne, .bool stp, .int .i64 hol] 84 (0, 0)), Rw 85 1 P rs.length C (fl rowL rs), RowsI 87 5 tkL rs])]) [17] (by kernel_rfl) H44 (fun wq47 H48 => ?_)
     have cm3 := H48.mask [false, true, true, true, true]
     refine w_t 0 rfl cm3 (fun _ _ => xm) ?_
     refine w_t 1 rfl cm3 (fun _ _ => xn) ?_
     refine w_t 2 rfl cm3 (fun _ _ => xf 0) ?_
     refine w_t 3 rfl cm3 (fun _ H => xl H 1) ?_
     refine w_t 4 rfl cm3 (fun _ _ => xm) ?_
     refine w_t 5 rfl cm3 (fun _ _ => xm) ?_
     refine w_t 6 rfl cm3 (fun _ _ => xn) ?_
     refine w_t 7 rfl cm3 (fun _ _ => xf 0) ?_
     refine w_t 8 rfl cm3 (fun _ H => xl H 1) ?_
     refine w_t 9 rfl cm3 (fun _ _ => xm) ?_
     refine w_t (v := .pointer ((P).map fun q => q.add (m * 1))) 10 rfl cm3 (fun _ _ => x_idxP m ((H48.rwReads (k := 3) rfl).some (by omega)) rfl rfl rfl Try.underlying82 sz85 (by omega)) ?_
     refine w_t (v := .slice x43.p x43.l.length x43.c) 11 rfl cm3 (fun _ H => x_loadR1 m (H.rwReads (k := 2) rfl) (by omega) rfl rfl Try.underlying85 rfl (rowE.flAt1 hx43 rfl)) ?_
     refine w_t 12 rfl cm3 (fun _ _ => xm) ?_
     refine w_t (v := .agg #[.string s, .int .i64 0, .int .i64 0, .bool false, .bool false]) 13 rfl cm3 (fun _ _ => x_build (vs := [.string s]) rfl rfl (cells := #[.string s, .int .i64 0, .int .i64 0, .bool false, .bool false]) (by kernel_rfl)) ?_
     refine a_one (i := 14) (by kernel_rfl) rfl ?_
     refine s_buildSlice H48 (wt0 rfl) rfl rfl rfl (vs := [.agg #[.string s, .int .i64 0, .int .i64 0, .bool false, .bool false]]) rfl Try.underlying85 sz87 ze87 rfl rfl (cells := #[.string s, .int .i64 0, .int .i64 0, .bool false, .bool false]) (by kernel_rfl) ?_
     intro g49 wq50 H51
     refine a_k (H51.mask [false, false, true, true, true, true]) ?_
     refine a_one (i := 15) (by kernel_rfl) rfl ?_
     have hln56a := (H51.rwReads (k := 1) rfl).lenL tkE
     have hln56 : (x43.l ++ [(⟨s, 0, 0, false, false⟩ : Tk)]).length = x43.l.length + 1 := by simp only [List.length_append, List.length_cons, List.length_nil] <;> omega
     refine s_appBn (m := 1) (l := x43.l) (l2 := [(⟨s, 0, 0, false, false⟩ : Tk)]) tkE H51 1 (j0 := 0) rfl rfl ⟨rfl, Nat.le_refl _⟩ (wt0 rfl) rfl rfl rfl rfl rfl rfl Try.underlying85 inf87 rfl (by decide) (by omega) ?_
     intro p52 c53 wq54 H55
     have cm4 := H55.mask [false, false, true, true, true, true]
     refine a_k cm4 ?_
     refine w_t (v := .pointer ((P).map fun q => q.add (m * 1))) 16 rfl cm4 (fun _ _ => x_idxP m ((H55.rwReads (k := 4) rfl).some (by omega)) rfl rfl rfl Try.underlying82 sz85 (by omega)) ?_
     refine a_one (i := 17) (by kernel_rfl) rfl ?_
     refine s_stoL (j := m) rowE (⟨p52, c53, (x43.l ++ [(⟨s, 0, 0, false, false⟩ : Tk)])⟩ : Ro Tk) H55 4 (wt0 rfl) rfl rfl rfl rfl rfl rfl sz85 (by omega) ?_
     intro wq57 H58
     refine a_kt rfl ?_
     refine a_done (by kernel_rfl) ?_
     refine g_then ?_
     refine g_weak [] trivial ?_
     refine w_s ?_
     refine w_a ?_
     refine w_e ?_
     refine g_ret ?_
     refine fin_ret [.tmp 6] [.int .i64 0] rfl ⟨rfl, trivial⟩ ?_
     have H59 := S.tkPut2 (rs := rs) (i := m) (l := (x43.l ++ [(⟨s, 0, 0, false, false⟩ : Tk)])) (by omega) (H58.takes [1, 2, 4, 3, 5] (by decide))
     have hE : addE (RPS rs now und nm ev beg who dne stp hol) m s = 0 := by unfold addE; rw [if_neg (by rw [hb3]; decide), if_neg (by show ¬ ((m : Int) < 0 ∨ (((rs.map fun r => r.l).length : Nat) : Int) < m); rw [List.length_map]; omega)]; rw [if_neg (by rw [hno9]; simp)]; rw [show (RPS rs now und nm ev beg who dne stp hol).T = (rs.map fun r => r.l) from rfl]; rw [if_neg (by rw [List.length_map, Int.toNat_natCast, getD_T hx43]; rintro (h8 | ⟨h8, h9⟩) <;> omega)]
     exact ⟨P, C, (rs.set m (⟨p52, c53, (x43.l ++ [(⟨s, 0, 0, false, false⟩ : Tk)])⟩ : Ro Tk)), now, und, nm, ev, beg, who, dne, stp, hol, (by unfold addA; rw [if_pos hE, if_neg (by rw [show (RPS rs now und nm ev beg who dne stp hol).T = (rs.map fun r => r.l) from rfl, List.length_map]; omega)]; unfold RPS; rw [set_T]; simp only [Int.toNat_natCast, getD_T hx43]; rfl), (by rw [hE]; rfl), H59.takes [0, 1, 2, 3] (by decide)⟩
 ·
  refine g_cond_t rfl (neg_of hb3) ?_
  refine w_s ?_
  refine w_a ?_
  refine w_e ?_
  refine g_ret ?_
  refine g_in_ret ?_
  refine g_then_ret ?_
  refine fin_ret [.tmp 6] [.int .i64 1] rfl ⟨rfl, trivial⟩ ?_
  have hE : addE (RPS rs now und nm ev beg who dne stp hol) m s = 1 := by unfold addE; rw [if_pos hb3]
  exact ⟨P, C, rs, now, und, nm, ev, beg, who, dne, stp, hol, (by unfold addA; rw [if_neg (by rw [hE]; decide)]), (by rw [hE]; rfl), H2.takes [0, 1, 2, 3] (by decide)⟩
end Go.Proofs.Ytibdlnjnomikjaa
