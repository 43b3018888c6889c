import Derived.Test.YtibdlnjnomikjaaFk
import Derived.Test.YtibdlnjnomikjaaUc
set_option linter.unusedSimpArgs false
set_option linter.unusedVariables false
namespace Go.Proofs.Ytibdlnjnomikjaa
open Go.RowKit

theorem cl13 : callable Try.prog 13 = true := by kernel_rfl
theorem cl59 : callable Try.prog 59 = true := by kernel_rfl
theorem cl61 : callable Try.prog 61 = true := by kernel_rfl
theorem fo87_1 : foO Try.prog 87 1 = some 1 := by kernel_rfl
theorem set_at {α : Type} {l : List α} {j : Nat} {x b : α} (h : l[j]? = some x) : (l.set j b)[j]? = some b := by
  rw [List.getElem?_set_self (List.getElem?_eq_some_iff.1 h).1]
theorem rowL_set {rs : List (Ro Tk)} {i : Nat} {r q : Ro Tk} (h : rs[i]? = some r) (he : rowL q = rowL r) : fl rowL (rs.set i q) = fl rowL rs := by
  obtain ⟨hi, e⟩ := List.getElem?_eq_some_iff.1 h
  have e1 : rs = rs.take i ++ r :: rs.drop (i + 1) := by
    conv => lhs; rw [← List.take_append_drop i rs]
    rw [List.drop_eq_getElem_cons hi, e]
  rw [List.set_eq_take_append_cons_drop, if_pos hi]
  conv => rhs; rw [e1]
  rw [fl_app, fl_app]
  show _ ++ (rowL q ++ fl rowL (rs.drop (i + 1))) = _ ++ (rowL r ++ fl rowL (rs.drop (i + 1)))
  rw [he]
theorem S.tkShut {w : World} {L : List Item} {rs : List (Ro Tk)} {i g C : Nat} {P : Option Addr} {r : Ro Tk} {l : List Tk} {a b c d e f x y z : Value} (hr : rs[i]? = some r) (hl : l.length = r.l.length)
    (h : S w (Rw 87 5 r.p r.l.length r.c (fl tkL l) :: RowsI 87 5 tkL (rs.eraseIdx i) :: Rw 85 1 P rs.length C (fl rowL rs) :: Ob g (.cells #[.slice P rs.length C, a, b, c, d, e, f, x, y, z] 84 (0, 0)) :: L)) :
    S w (Ob g (.cells #[.slice P (rs.set i ⟨r.p, r.c, l⟩).length C, a, b, c, d, e, f, x, y, z] 84 (0, 0)) :: Rw 85 1 P (rs.set i ⟨r.p, r.c, l⟩).length C (fl rowL (rs.set i ⟨r.p, r.c, l⟩)) :: RowsI 87 5 tkL (rs.set i ⟨r.p, r.c, l⟩) :: L) := by
  have h1 : S w (roI 87 5 tkL (⟨r.p, r.c, l⟩ : Ro Tk) :: RowsI 87 5 tkL (rs.eraseIdx i) :: Rw 85 1 P rs.length C (fl rowL rs) :: Ob g (.cells #[.slice P rs.length C, a, b, c, d, e, f, x, y, z] 84 (0, 0)) :: L) := by
    unfold roI; rw [hl]; exact h
  have h2 := S.rowsIn h1 (List.getElem?_eq_some_iff.1 hr).1
  have e1 : fl rowL (rs.set i ⟨r.p, r.c, l⟩) = fl rowL rs := rowL_set hr (by unfold rowL roV; rw [hl])
  rw [e1, List.length_set]
  exact h2.perm (by
    refine .trans (.trans (.cons _ (.swap _ _ _)) (.swap _ _ _)) ?_
    exact .cons _ (.swap _ _ _))
theorem set_T {rs : List (Ro Tk)} {i : Nat} {q : Ro Tk} : ((rs.set i q).map fun r => r.l) = (rs.map fun r => r.l).set i q.l := by rw [List.map_set]
theorem getD_T {rs : List (Ro Tk)} {i : Nat} {r : Ro Tk} (h : rs[i]? = some r) : (rs.map fun r => r.l).getD i [] = r.l := by
  rw [List.getD_eq_getElem?_getD, List.getElem?_map, h]; rfl
set_option maxRecDepth 20000 in
set_option maxHeartbeats 4000000 in
theorem done_R {g C : Nat} {P : Option Addr} {rs : List (Ro Tk)} {now ev hol : Int} {nm : ByteArray} {und beg who dne stp : Bool} (hrs : rs.length ≤ 20) (hrl : ∀ r ∈ rs, r.l.length ≤ 20)  (w : World) (HS : S w [Ob g (.cells #[.slice P rs.length C, .int .i64 now, .bool und, .string nm, .int .i64 ev, .bool beg, .bool who, .bool dne, .bool stp, .int .i64 hol] 84 (0, 0)), Rw 85 1 P rs.length C (fl rowL rs), RowsI 87 5 tkL rs]) : Calls Try.prog 42 #[.pointer (some ⟨g, 0, none⟩)] w fun e w' => ∃ (P' : Option Addr) (C' : Nat) (rs' : List (Ro Tk)) (now' : Int) (und' : Bool) (nm' : ByteArray) (ev' : Int) (beg' who' dne' stp' : Bool) (hol' : Int), RPS rs' now' und' nm' ev' beg' who' dne' stp' hol' = doneA (RPS rs now und nm ev beg who dne stp hol) ∧ e = .returned (.int .i64 (doneE (RPS rs now und nm ev beg who dne stp hol))) ∧ S w' ([Ob g (.cells #[.slice P' rs'.length C', .int .i64 (now'), .bool und', .string (nm'), .int .i64 (ev'), .bool beg', .bool who', .bool dne', .bool stp', .int .i64 (hol')] 84 (0, 0)), Rw 85 1 P' rs'.length C' (fl rowL rs'), RowsI 87 5 tkL rs'] ++ [Old w (fps [Ob g (.cells #[.slice P rs.length C, .int .i64 now, .bool und, .string nm, .int .i64 ev, .bool beg, .bool who, .bool dne, .bool stp, .int .i64 hol] 84 (0, 0)), Rw 85 1 P rs.length C (fl rowL rs), RowsI 87 5 tkL rs])]) := by
 have H0 := HS.beginI
 refine enter 20 Try.func42 rfl rfl rfl ?_
 refine g_weak [(0, .pointer (some ⟨g, 0, none⟩))] ⟨rfl, trivial⟩ ?_
 refine w_s ?_
 refine w_a ?_
 refine w_e ?_
 refine g_seq ?_
 refine g_block ?_
 refine w_s ?_
 refine w_m ?_
 refine w_b (v := .bool false) (hb := (b_eqN (r := false) Try.underlying48 rfl)) ?_
 refine w_a ?_
 refine w_e ?_
 refine g_cond_f rfl rfl ?_
 refine w_s ?_
 refine w_r3 ?_
 refine w_1 H0 0 ?_
 refine w_m ?_
 rcases Bool.eq_false_or_eq_true (dne) with hb1 | hb1
 ·
  refine w_n hb1 ?_
  refine w_n hb1 ?_
  refine w_n hb1 ?_
  refine w_n hb1 ?_
  refine w_v (v := .bool true) (x_pick_t rfl rfl hb1 rfl) ?_
  refine w_a ?_
  refine w_e ?_
  refine g_weak [(0, .pointer (some ⟨g, 0, none⟩)), (6, .bool true)] ⟨rfl, rfl, trivial⟩ ?_
  refine g_cond_t rfl rfl ?_
  refine w_s ?_
  refine w_a ?_
  refine w_e ?_
  refine g_ret ?_
  refine g_in_ret ?_
  refine g_then_ret ?_
  refine fin_ret [.tmp 2] [.int .i64 9] rfl ⟨rfl, trivial⟩ ?_
  exact ⟨P, C, rs, now, und, nm, ev, beg, who, dne, stp, hol, (by unfold doneA RPS; simp [hb1]), (by unfold doneE RPS; simp [hb1, tupled]), H0.takes [0, 1, 2, 3] (by decide)⟩
 ·
  refine w_g hb1 xm ?_
  refine w_g hb1 xn ?_
  refine w_g hb1 (xf 6) ?_
  refine w_g hb1 (xl H0 0) ?_
  refine w_v (v := .bool who) (x_pick_f rfl rfl hb1 rfl) ?_
  refine w_a ?_
  refine w_e ?_
  refine g_weak [(0, .pointer (some ⟨g, 0, none⟩)), (6, .bool who)] ⟨rfl, rfl, trivial⟩ ?_
  rcases Bool.eq_false_or_eq_true (who) with hb2 | hb2
  ·
   refine g_cond_t rfl hb2 ?_
   refine w_s ?_
   refine w_a ?_
   refine w_e ?_
   refine g_ret ?_
   refine g_in_ret ?_
   refine g_then_ret ?_
   refine fin_ret [.tmp 2] [.int .i64 9] rfl ⟨rfl, trivial⟩ ?_
   exact ⟨P, C, rs, now, und, nm, ev, beg, who, dne, stp, hol, (by unfold doneA RPS; simp [hb1, hb2]), (by unfold doneE RPS; simp [hb1, hb2, tupled]), H0.takes [0, 1, 2, 3] (by decide)⟩
  ·
   refine g_cond_f rfl hb2 ?_
   refine g_skip ?_
   refine g_in ?_
   refine g_then ?_
   refine w_s ?_
   refine w_r3 ?_
   refine l_of (w_st #[.slice P rs.length C, .int .i64 now, .bool und, .string nm, .int .i64 ev, .bool beg, .bool who, .bool true, .bool stp, .int .i64 hol] H0 0 ?_)
   intro wq3 H4
   refine w_e ?_
   refine w_s ?_
   refine w_a ?_
   refine w_e ?_
   refine g_ret ?_
   refine fin_ret [.tmp 2] [.int .i64 0] rfl ⟨rfl, trivial⟩ ?_
   exact ⟨P, C, rs, now, und, nm, ev, beg, who, true, stp, hol, (by unfold doneA RPS; simp [hb1, hb2]), (by unfold doneE RPS; simp [hb1, hb2, tupled]), H4.takes [0, 1, 2, 3] (by decide)⟩
set_option maxRecDepth 20000 in
set_option maxHeartbeats 4000000 in
theorem stop_R {g C : Nat} {P : Option Addr} {rs : List (Ro Tk)} {now ev hol : Int} {nm : ByteArray} {und beg who dne stp : Bool} (hrs : rs.length ≤ 20) (hrl : ∀ r ∈ rs, r.l.length ≤ 20)  (w : World) (HS : S w [Ob g (.cells #[.slice P rs.length C, .int .i64 now, .bool und, .string nm, .int .i64 ev, .bool beg, .bool who, .bool dne, .bool stp, .int .i64 hol] 84 (0, 0)), Rw 85 1 P rs.length C (fl rowL rs), RowsI 87 5 tkL rs]) : Calls Try.prog 43 #[.pointer (some ⟨g, 0, none⟩)] w fun e w' => ∃ (P' : Option Addr) (C' : Nat) (rs' : List (Ro Tk)) (now' : Int) (und' : Bool) (nm' : ByteArray) (ev' : Int) (beg' who' dne' stp' : Bool) (hol' : Int), RPS rs' now' und' nm' ev' beg' who' dne' stp' hol' = stopA (RPS rs now und nm ev beg who dne stp hol) ∧ e = .returned (.int .i64 (stopE (RPS rs now und nm ev beg who dne stp hol))) ∧ S w' ([Ob g (.cells #[.slice P' rs'.length C', .int .i64 (now'), .bool und', .string (nm'), .int .i64 (ev'), .bool beg', .bool who', .bool dne', .bool stp', .int .i64 (hol')] 84 (0, 0)), Rw 85 1 P' rs'.length C' (fl rowL rs'), RowsI 87 5 tkL rs'] ++ [Old w (fps [Ob g (.cells #[.slice P rs.length C, .int .i64 now, .bool und, .string nm, .int .i64 ev, .bool beg, .bool who, .bool dne, .bool stp, .int .i64 hol] 84 (0, 0)), Rw 85 1 P rs.length C (fl rowL rs), RowsI 87 5 tkL rs])]) := by
 have H0 := HS.beginI
 refine enter 14 Try.func43 rfl rfl rfl ?_
 refine g_weak [(0, .pointer (some ⟨g, 0, none⟩))] ⟨rfl, trivial⟩ ?_
 refine w_s ?_
 refine w_a ?_
 refine w_e ?_
 refine g_seq ?_
 refine g_block ?_
 refine w_s ?_
 refine w_m ?_
 refine w_b (v := .bool false) (hb := (b_eqN (r := false) Try.underlying48 rfl)) ?_
 refine w_a ?_
 refine w_e ?_
 refine g_cond_f rfl rfl ?_
 refine w_s ?_
 refine w_r3 ?_
 refine w_1 H0 0 ?_
 refine w_a ?_
 refine w_e ?_
 rcases Bool.eq_false_or_eq_true (stp) with hb1 | hb1
 ·
  refine g_cond_t rfl hb1 ?_
  refine w_s ?_
  refine w_a ?_
  refine w_e ?_
  refine g_ret ?_
  refine g_in_ret ?_
  refine g_then_ret ?_
  refine fin_ret [.tmp 2] [.int .i64 9] rfl ⟨rfl, trivial⟩ ?_
  exact ⟨P, C, rs, now, und, nm, ev, beg, who, dne, stp, hol, (by unfold stopA RPS; simp [hb1]), (by unfold stopE RPS; simp [hb1, tupled]), H0.takes [0, 1, 2, 3] (by decide)⟩
 ·
  refine g_cond_f rfl hb1 ?_
  refine g_skip ?_
  refine g_in ?_
  refine g_then ?_
  refine w_s ?_
  refine w_r3 ?_
  refine l_of (w_st #[.slice P rs.length C, .int .i64 now, .bool und, .string nm, .int .i64 ev, .bool beg, .bool who, .bool dne, .bool true, .int .i64 hol] H0 0 ?_)
  intro wq2 H3
  refine w_e ?_
  refine g_weak [] trivial ?_
  refine w_s ?_
  refine w_a ?_
  refine w_e ?_
  refine g_ret ?_
  refine fin_ret [.tmp 2] [.int .i64 0] rfl ⟨rfl, trivial⟩ ?_
  exact ⟨P, C, rs, now, und, nm, ev, beg, who, dne, true, hol, (by unfold stopA RPS; simp [hb1]), (by unfold stopE RPS; simp [hb1, tupled]), H3.takes [0, 1, 2, 3] (by decide)⟩
set_option maxRecDepth 20000 in
set_option maxHeartbeats 4000000 in
theorem tiers_R {g C : Nat} {P : Option Addr} {rs : List (Ro Tk)} {now ev hol : Int} {nm : ByteArray} {und beg who dne stp : Bool} (hrs : rs.length ≤ 20) (hrl : ∀ r ∈ rs, r.l.length ≤ 20)  (w : World) (HS : S w [Ob g (.cells #[.slice P rs.length C, .int .i64 now, .bool und, .string nm, .int .i64 ev, .bool beg, .bool who, .bool dne, .bool stp, .int .i64 hol] 84 (0, 0)), Rw 85 1 P rs.length C (fl rowL rs), RowsI 87 5 tkL rs]) : Calls Try.prog 49 #[.pointer (some ⟨g, 0, none⟩)] w fun e w' => e = .returned (.int .i64 (rs.length : Int)) ∧ S w' ([Ob g (.cells #[.slice P rs.length C, .int .i64 now, .bool und, .string nm, .int .i64 ev, .bool beg, .bool who, .bool dne, .bool stp, .int .i64 hol] 84 (0, 0)), Rw 85 1 P rs.length C (fl rowL rs), RowsI 87 5 tkL rs] ++ [Old w (fps [Ob g (.cells #[.slice P rs.length C, .int .i64 now, .bool und, .string nm, .int .i64 ev, .bool beg, .bool who, .bool dne, .bool stp, .int .i64 hol] 84 (0, 0)), Rw 85 1 P rs.length C (fl rowL rs), RowsI 87 5 tkL rs])]) := by
 have H0 := HS.beginI
 refine enter 8 Try.func49 rfl rfl rfl ?_
 refine g_weak [(0, .pointer (some ⟨g, 0, none⟩))] ⟨rfl, trivial⟩ ?_
 refine w_s ?_
 refine w_a ?_
 refine w_e ?_
 refine w_s ?_
 refine w_r3 ?_
 refine w_1 H0 0 ?_
 refine w_v (v := .int .i64 ((rs.length : Int))) (x_lenl rfl rfl Try.underlying82) ?_
 refine w_a ?_
 refine w_e ?_
 refine g_ret ?_
 refine fin_ret [.tmp 2] [.int .i64 ((rs.length : Int))] rfl ⟨rfl, trivial⟩ ?_
 exact ⟨rfl, H0.takes [0, 1, 2, 3] (by decide)⟩
set_option maxRecDepth 20000 in
set_option maxHeartbeats 4000000 in
theorem failed_R {g C : Nat} {P : Option Addr} {rs : List (Ro Tk)} {now ev hol : Int} {nm : ByteArray} {und beg who dne stp : Bool} (hrs : rs.length ≤ 20) (hrl : ∀ r ∈ rs, r.l.length ≤ 20) {s : ByteArray}  (w : World) (HS : S w [Ob g (.cells #[.slice P rs.length C, .int .i64 now, .bool und, .string nm, .int .i64 ev, .bool beg, .bool who, .bool dne, .bool stp, .int .i64 hol] 84 (0, 0)), Rw 85 1 P rs.length C (fl rowL rs), RowsI 87 5 tkL rs]) : Calls Try.prog 52 #[.pointer (some ⟨g, 0, none⟩), .string s] w fun e w' => e = .returned (.tuple #[.int .i64 (failedV (RPS rs now und nm ev beg who dne stp hol) s), .int .i64 (failedE (RPS rs now und nm ev beg who dne stp hol) s)]) ∧ S w' ([Ob g (.cells #[.slice P rs.length C, .int .i64 now, .bool und, .string nm, .int .i64 ev, .bool beg, .bool who, .bool dne, .bool stp, .int .i64 hol] 84 (0, 0)), Rw 85 1 P rs.length C (fl rowL rs), RowsI 87 5 tkL rs] ++ [Old w (fps [Ob g (.cells #[.slice P rs.length C, .int .i64 now, .bool und, .string nm, .int .i64 ev, .bool beg, .bool who, .bool dne, .bool stp, .int .i64 hol] 84 (0, 0)), Rw 85 1 P rs.length C (fl rowL rs), RowsI 87 5 tkL rs])]) := by
 have H0 := HS.beginI
 refine enter 36 Try.func52 rfl rfl rfl ?_
 refine g_weak [(0, .pointer (some ⟨g, 0, none⟩)), (1, .string s)] ⟨rfl, rfl, trivial⟩ ?_
 refine w_s ?_
 refine w_r2 ?_
 refine w_e ?_
 refine g_seq ?_
 refine w_s ?_
 refine w_m ?_
 refine w_b (v := .bool false) (hb := (b_eqN (r := false) Try.underlying48 rfl)) ?_
 refine w_m ?_
 refine w_g rfl xm ?_
 refine l_of (s_call0 H0 (wt1 rfl rfl rfl rfl rfl) (x_call' rfl rfl cl59) (name_r s _) rfl rfl ?_)
 intro wq1 H2
 refine w_g (v := .bool (!((textS s)))) rfl (x_not (b := (textS s)) rfl rfl) ?_
 refine w_v (v := .bool (!((textS s)))) (x_pick_f rfl rfl rfl rfl) ?_
 refine w_e ?_
 rcases Bool.eq_false_or_eq_true ((textS s)) with hb3 | hb3
 ·
  refine g_cond_f rfl (neg_of hb3) ?_
  refine g_skip ?_
  refine g_then ?_
  refine w_s ?_
  refine w_r2 ?_
  refine l_of (s_call (wt0 rfl) (x_call' rfl rfl cl62) (place_r hrs hrl (s := s) _ (H2.takes [0, 1, 2] (by decide))) ?_)
  rintro ee12 wq10 hor13
  rcases hor13 with ⟨i4, k5, r6, x7, hr6, hx7, hfx8, rfl, H11⟩ | ⟨hno9, rfl, H11⟩
  ·
   replace H11 : S wq10 [Ob g (.cells #[.slice P rs.length C, .int .i64 now, .bool und, .string nm, .int .i64 ev, .bool beg, .bool who, .bool dne, .bool stp, .int .i64 hol] 84 (0, 0)), Rw 85 1 P rs.length C (fl rowL rs), RowsI 87 5 tkL rs, Old w (fps [Ob g (.cells #[.slice P rs.length C, .int .i64 now, .bool und, .string nm, .int .i64 ev, .bool beg, .bool who, .bool dne, .bool stp, .int .i64 hol] 84 (0, 0)), Rw 85 1 P rs.length C (fl rowL rs), RowsI 87 5 tkL rs])] := by have h := H2.absorbI [0, 1, 2] H11; exact h
   have hrlr6 := hrl r6 (List.mem_of_getElem? hr6)
   have hkl := (List.getElem?_eq_some_iff.1 hx7).1
   have hil := (List.getElem?_eq_some_iff.1 hr6).1
   refine b_ret rfl rfl ?_
   refine w_r7 ?_
   refine w_e ?_
   refine g_weak [(0, .pointer (some ⟨g, 0, none⟩)), (6, .int .i64 ((i4 : Int))), (7, .int .i64 ((k5 : Int))), (8, .bool true)] ⟨rfl, rfl, rfl, rfl, trivial⟩ ?_
   refine g_seq ?_
   refine w_s ?_
   refine w_m ?_
   refine w_v (v := .bool false) (x_not (b := true) rfl rfl) ?_
   refine w_e ?_
   refine g_cond_f rfl rfl ?_
   refine g_skip ?_
   refine g_then ?_
   refine w_s ?_
   refine w_r3 ?_
   refine w_1 H11 0 ?_
   refine w_m ?_
   refine w_v (v := .pointer ((P).map fun q => q.add (i4 * 1))) (x_idxR i4 (H11.rwReads (k := 1) rfl) rfl rfl rfl Try.underlying82 sz85 (by omega)) ?_
   refine w_v (v := .slice r6.p r6.l.length r6.c) (x_loadR1 i4 (H11.rwReads (k := 1) rfl) (by omega) rfl rfl Try.underlying85 rfl (rowE.flAt1 hr6 rfl)) ?_
   refine w_m ?_
   refine w_v (v := .pointer ((r6.p).map fun q => q.add (k5 * 5))) (x_idxR k5 ((rows_in (H11.at (k := 2) rfl) (.inl (List.mem_of_getElem? hr6)))) rfl rfl rfl Try.underlying85 sz87 (by omega)) ?_
   refine w_v (v := .pointer ((r6.p).map fun q => q.add (k5 * 5 + 1))) (ex_cast (x_fieldAddrG (m := k5 * 5) (((rows_in (H11.at (k := 2) rfl) (.inl (List.mem_of_getElem? hr6)))).some (by omega)) rfl rfl fo87_1) rfl) ?_
   refine w_v (v := .int .i64 (x7.failed)) (x_loadF1 (i := 1) (j := k5) tkE ((rows_in (H11.at (k := 2) rfl) (.inl (List.mem_of_getElem? hr6)))) hx7 rfl rfl Try.underlying3 rfl rfl) ?_
   refine w_r2 ?_
   refine w_e ?_
   refine g_weak [(4, .int .i64 (x7.failed)), (5, .int .i64 0)] ⟨rfl, rfl, trivial⟩ ?_
   refine g_ret ?_
   refine fin_ret [.tmp 4, .tmp 5] [.int .i64 (x7.failed), .int .i64 0] rfl ⟨rfl, rfl, trivial⟩ ?_
   have hE : failedE (RPS rs now und nm ev beg who dne stp hol) s = 0 := by unfold failedE; rw [if_neg (by simp [hb3]), if_neg (by rw [hfx8]; simp)]
   have hV : failedV (RPS rs now und nm ev beg who dne stp hol) s = x7.failed := by unfold failedV; rw [if_pos hE, hfx8]
   exact ⟨by rw [hE, hV]; rfl, H11.takes [0, 1, 2, 3] (by decide)⟩
  ·
   replace H11 : S wq10 [Ob g (.cells #[.slice P rs.length C, .int .i64 now, .bool und, .string nm, .int .i64 ev, .bool beg, .bool who, .bool dne, .bool stp, .int .i64 hol] 84 (0, 0)), Rw 85 1 P rs.length C (fl rowL rs), RowsI 87 5 tkL rs, Old w (fps [Ob g (.cells #[.slice P rs.length C, .int .i64 now, .bool und, .string nm, .int .i64 ev, .bool beg, .bool who, .bool dne, .bool stp, .int .i64 hol] 84 (0, 0)), Rw 85 1 P rs.length C (fl rowL rs), RowsI 87 5 tkL rs])] := by have h := H2.absorbI [0, 1, 2] H11; exact h
   refine b_ret rfl rfl ?_
   refine w_r7 ?_
   refine w_e ?_
   refine g_weak [(0, .pointer (some ⟨g, 0, none⟩)), (6, .int .i64 0), (7, .int .i64 0), (8, .bool false)] ⟨rfl, rfl, rfl, rfl, trivial⟩ ?_
   refine g_seq ?_
   refine w_s ?_
   refine w_m ?_
   refine w_v (v := .bool true) (x_not (b := false) rfl rfl) ?_
   refine w_e ?_
   refine g_cond_t rfl rfl ?_
   refine w_s ?_
   refine w_r2 ?_
   refine w_e ?_
   refine g_ret ?_
   refine g_then_ret ?_
   refine fin_ret [.tmp 4, .tmp 5] [.int .i64 0, .int .i64 5] rfl ⟨rfl, rfl, trivial⟩ ?_
   have hE : failedE (RPS rs now und nm ev beg who dne stp hol) s = 5 := by unfold failedE; rw [if_neg (by simp [hb3]), if_pos hno9]
   have hV : failedV (RPS rs now und nm ev beg who dne stp hol) s = 0 := by unfold failedV; rw [if_neg (by rw [hE]; decide)]
   exact ⟨by rw [hE, hV]; rfl, H11.takes [0, 1, 2, 3] (by decide)⟩
 ·
  refine g_cond_t rfl (neg_of hb3) ?_
  refine w_s ?_
  refine w_r2 ?_
  refine w_e ?_
  refine g_ret ?_
  refine g_then_ret ?_
  refine fin_ret [.tmp 4, .tmp 5] [.int .i64 0, .int .i64 1] rfl ⟨rfl, rfl, trivial⟩ ?_
  have hE : failedE (RPS rs now und nm ev beg who dne stp hol) s = 1 := by unfold failedE; rw [if_pos hb3]
  have hV : failedV (RPS rs now und nm ev beg who dne stp hol) s = 0 := by unfold failedV; rw [if_neg (by rw [hE]; decide)]
  exact ⟨by rw [hE, hV]; rfl, H2.takes [0, 1, 2, 3] (by decide)⟩
set_option maxRecDepth 20000 in
set_option maxHeartbeats 4000000 in
theorem fail_R {g C : Nat} {P : Option Addr} {rs : List (Ro Tk)} {now ev hol : Int} {nm : ByteArray} {und beg who dne stp : Bool} (hrs : rs.length ≤ 20) (hrl : ∀ r ∈ rs, r.l.length ≤ 20) {n : Int} (h0 : 0 ≤ now) (hfl : ∀ r ∈ rs, ∀ x ∈ r.l, 0 ≤ x.failed ∧ x.failed ≤ 1000) (hpl : und = true → (RPS rs now und nm ev beg who dne stp hol).place nm ≠ none)  (w : World) (HS : S w [Ob g (.cells #[.slice P rs.length C, .int .i64 now, .bool und, .string nm, .int .i64 ev, .bool beg, .bool who, .bool dne, .bool stp, .int .i64 hol] 84 (0, 0)), Rw 85 1 P rs.length C (fl rowL rs), RowsI 87 5 tkL rs]) : Calls Try.prog 41 #[.pointer (some ⟨g, 0, none⟩), .int .i64 n] w fun e w' => ∃ (P' : Option Addr) (C' : Nat) (rs' : List (Ro Tk)) (now' : Int) (und' : Bool) (nm' : ByteArray) (ev' : Int) (beg' who' dne' stp' : Bool) (hol' : Int), RPS rs' now' und' nm' ev' beg' who' dne' stp' hol' = failA (RPS rs now und nm ev beg who dne stp hol) n ∧ e = .returned (.int .i64 (failE (RPS rs now und nm ev beg who dne stp hol) n)) ∧ S w' ([Ob g (.cells #[.slice P' rs'.length C', .int .i64 (now'), .bool und', .string (nm'), .int .i64 (ev'), .bool beg', .bool who', .bool dne', .bool stp', .int .i64 (hol')] 84 (0, 0)), Rw 85 1 P' rs'.length C' (fl rowL rs'), RowsI 87 5 tkL rs'] ++ [Old w (fps [Ob g (.cells #[.slice P rs.length C, .int .i64 now, .bool und, .string nm, .int .i64 ev, .bool beg, .bool who, .bool dne, .bool stp, .int .i64 hol] 84 (0, 0)), Rw 85 1 P rs.length C (fl rowL rs), RowsI 87 5 tkL rs])]) := by
 have H0 := HS.beginI
 refine enter 53 Try.func41 rfl rfl rfl ?_
 refine g_weak [(0, .pointer (some ⟨g, 0, none⟩)), (1, .int .i64 n)] ⟨rfl, rfl, trivial⟩ ?_
 refine w_s ?_
 refine w_a ?_
 refine w_e ?_
 refine w_s ?_
 refine w_r2 ?_
 refine l_of (s_call (wt0 rfl) (x_call' rfl rfl cl61) (ended_r hrs hrl (n := n) (bad := false) hpl _ (H0.takes [0, 1, 2] (by decide))) ?_)
 rintro ee14 wq12 hor15
 rcases hor15 with ⟨ek6, rfl, hnz8, hek7, H13⟩ | ⟨i1, k2, r3, x4, htl9, hbd10, hun11, hr3, hx4, hfx5, rfl, H13⟩
 ·
  replace H13 : S wq12 [Ob g (.cells #[.slice P rs.length C, .int .i64 now, .bool und, .string nm, .int .i64 ev, .bool beg, .bool who, .bool dne, .bool stp, .int .i64 hol] 84 (0, 0)), Rw 85 1 P rs.length C (fl rowL rs), RowsI 87 5 tkL rs, Old w (fps [Ob g (.cells #[.slice P rs.length C, .int .i64 now, .bool und, .string nm, .int .i64 ev, .bool beg, .bool who, .bool dne, .bool stp, .int .i64 hol] 84 (0, 0)), Rw 85 1 P rs.length C (fl rowL rs), RowsI 87 5 tkL rs])] := by have h := H0.absorbI [0, 1, 2] H13; exact h
  refine b_ret rfl rfl ?_
  refine w_r7 ?_
  refine w_e ?_
  refine g_seq ?_
  refine w_s ?_
  refine w_m ?_
  refine w_b (v := .bool (!decide ((ek6 : Int) = 0))) (hb := b_neq) ?_
  refine w_e ?_
  refine g_cond_t rfl (nt hnz8) ?_
  refine w_s ?_
  refine w_r2 ?_
  refine w_e ?_
  refine g_weak [(4, .int .i64 ek6)] ⟨rfl, trivial⟩ ?_
  refine g_ret ?_
  refine g_then_ret ?_
  refine fin_ret [.tmp 4] [.int .i64 ek6] rfl ⟨rfl, trivial⟩ ?_
  have hE : failE (RPS rs now und nm ev beg who dne stp hol) n = ek6 := by rw [hek7]; unfold failE RPS; cases und <;> simp <;> (split <;> simp_all [tellS] <;> (try omega))
  exact ⟨P, C, rs, now, und, nm, ev, beg, who, dne, stp, hol, (by unfold failA; rw [if_neg (by rw [hE]; exact hnz8)]), (by rw [hE]; rfl), H13.takes [0, 1, 2, 3] (by decide)⟩
 ·
  replace H13 : S wq12 [Ob g (.cells #[.slice P rs.length C, .int .i64 n, .bool false, .string nm, .int .i64 ev, .bool beg, .bool who, .bool dne, .bool stp, .int .i64 hol] 84 (0, 0)), Rw 85 1 P rs.length C (fl rowL rs), RowsI 87 5 tkL rs, Old w (fps [Ob g (.cells #[.slice P rs.length C, .int .i64 now, .bool und, .string nm, .int .i64 ev, .bool beg, .bool who, .bool dne, .bool stp, .int .i64 hol] 84 (0, 0)), Rw 85 1 P rs.length C (fl rowL rs), RowsI 87 5 tkL rs])] := by have h := H0.absorbI [0, 1, 2] H13; exact h
  have hrlr3 := hrl r3 (List.mem_of_getElem? hr3)
  have hkl := (List.getElem?_eq_some_iff.1 hx4).1
  have hil := (List.getElem?_eq_some_iff.1 hr3).1
  have htl2 := tellS_0 htl9
  refine b_ret rfl rfl ?_
  refine w_r7 ?_
  refine w_e ?_
  refine g_seq ?_
  refine w_s ?_
  refine w_m ?_
  refine w_b (v := .bool (!decide ((0 : Int) = 0))) (hb := b_neq) ?_
  refine w_e ?_
  refine g_cond_f rfl (nf rfl) ?_
  refine g_skip ?_
  refine g_then ?_
  refine w_s ?_
  refine w_r3 ?_
  refine w_1 H13 0 ?_
  refine w_m ?_
  refine w_v (v := .pointer ((P).map fun q => q.add (i1 * 1))) (x_idxR i1 (H13.rwReads (k := 1) rfl) rfl rfl rfl Try.underlying82 sz85 (by omega)) ?_
  refine w_v (v := .slice r3.p r3.l.length r3.c) (x_loadR1 i1 (H13.rwReads (k := 1) rfl) (by omega) rfl rfl Try.underlying85 rfl (rowE.flAt1 hr3 rfl)) ?_
  refine w_m ?_
  refine w_v (v := .pointer ((r3.p).map fun q => q.add (k2 * 5))) (x_idxR k2 ((rows_in (H13.at (k := 2) rfl) (.inl (List.mem_of_getElem? hr3)))) rfl rfl rfl Try.underlying85 sz87 (by omega)) ?_
  have hfb := hfl r3 (List.mem_of_getElem? hr3) x4 (List.mem_of_getElem? hx4)
  have H16 := S.rowsOut (H13.takes [2, 0, 1, 3] (by decide)) hr3
  refine w_a ?_
  refine w_e ?_
  refine g_weak [(0, .pointer (some ⟨g, 0, none⟩)), (1, .int .i64 n), (8, .pointer ((r3.p).map fun q => q.add (k2 * 5)))] ⟨rfl, rfl, rfl, trivial⟩ ?_
  refine w_s ?_
  refine w_m ?_
  refine w_v (x_nilCheckG ((H16.rwReads (k := 0) rfl).some (by omega)) rfl rfl) ?_
  refine w_v (v := .pointer ((r3.p).map fun q => q.add (k2 * 5 + 1))) (ex_cast (x_fieldAddrG (m := k2 * 5) ((H16.rwReads (k := 0) rfl).some (by omega)) rfl rfl fo87_1) rfl) ?_
  refine w_v (v := .int .i64 (x4.failed)) (x_loadF1 (i := 1) (j := k2) tkE (H16.rwReads (k := 0) rfl) hx4 rfl rfl Try.underlying3 rfl rfl) ?_
  refine w_b (v := .int .i64 ((x4.failed + 1))) (hb := (b_add (by rw [w64 (by omega)]))) ?_
  refine w_v (x_nilCheckG ((H16.rwReads (k := 0) rfl).some (by omega)) rfl rfl) ?_
  refine w_v (v := .pointer ((r3.p).map fun q => q.add (k2 * 5 + 1))) (ex_cast (x_fieldAddrG (m := k2 * 5) ((H16.rwReads (k := 0) rfl).some (by omega)) rfl rfl fo87_1) rfl) ?_
  refine l_of (s_fldL (i := 1) (j := k2) tkE (⟨x4.name, (x4.failed + 1), x4.after, x4.ans, x4.told⟩ : Tk) H16 0 (wt0 rfl) rfl rfl rfl rfl rfl hx4 rfl (by decide) sz3 rfl rfl ?_)
  intro wq17 H18
  refine w_e ?_
  refine w_s ?_
  refine w_r3 ?_
  refine w_v (x_nilCheckG ((H18.rwReads (k := 0) rfl).some (by omega)) rfl rfl) ?_
  refine w_v (v := .pointer ((r3.p).map fun q => q.add (k2 * 5 + 1))) (ex_cast (x_fieldAddrG (m := k2 * 5) ((H18.rwReads (k := 0) rfl).some (by omega)) rfl rfl fo87_1) rfl) ?_
  refine w_v (v := .int .i64 ((x4.failed + 1))) (x_loadF1 (i := 1) (j := k2) tkE (H18.rwReads (k := 0) rfl) (set_at hx4) rfl rfl Try.underlying3 rfl rfl) ?_
  have hws := waitS_ge (x4.failed + 1) (by omega)
  refine l_of (s_call0 H18 (wt0 rfl) (x_call' rfl rfl cl13) (wait_r _ (by omega) (by omega) _) rfl rfl ?_)
  intro wq19 H20
  refine w_b (v := .int .i64 ((n + waitS (x4.failed + 1)))) (hb := (b_add (by rw [w64 (by omega)]))) ?_
  refine w_v (x_nilCheckG ((H20.rwReads (k := 0) rfl).some (by omega)) rfl rfl) ?_
  refine w_v (v := .pointer ((r3.p).map fun q => q.add (k2 * 5 + 2))) (ex_cast (x_fieldAddrG (m := k2 * 5) ((H20.rwReads (k := 0) rfl).some (by omega)) rfl rfl fo87_2) rfl) ?_
  refine l_of (s_fldL (i := 2) (j := k2) tkE (⟨x4.name, (x4.failed + 1), (n + waitS (x4.failed + 1)), x4.ans, x4.told⟩ : Tk) H20 0 (wt0 rfl) rfl rfl rfl rfl rfl (set_at hx4) rfl (by decide) sz3 rfl rfl ?_)
  intro wq21 H22
  refine w_e ?_
  refine g_weak [(0, .pointer (some ⟨g, 0, none⟩)), (8, .pointer ((r3.p).map fun q => q.add (k2 * 5)))] ⟨rfl, rfl, trivial⟩ ?_
  refine g_seq ?_
  refine w_s ?_
  refine w_r3 ?_
  refine w_1 H22 2 ?_
  refine w_b ?_
  refine w_e ?_
  by_cases hb23 : (ev : Int) = 2
  ·
   refine g_cond_t rfl (decide_eq_true hb23) ?_
   refine g_region ?_
   refine w_m ?_
   refine w_v (x_nilCheckG ((H22.rwReads (k := 0) rfl).some (by omega)) rfl rfl) ?_
   refine w_v (v := .pointer ((r3.p).map fun q => q.add (k2 * 5 + 4))) (ex_cast (x_fieldAddrG (m := k2 * 5) ((H22.rwReads (k := 0) rfl).some (by omega)) rfl rfl fo87_4) rfl) ?_
   refine l_of (s_fldL (i := 4) (j := k2) tkE (⟨x4.name, (x4.failed + 1), (n + waitS (x4.failed + 1)), x4.ans, true⟩ : Tk) H22 0 (wt0 rfl) rfl rfl rfl rfl rfl (set_at (set_at hx4)) rfl (by decide) sz4 rfl rfl ?_)
   intro wq24 H25
   refine w_e ?_
   refine w_s ?_
   refine w_a ?_
   refine w_e ?_
   refine g_ret ?_
   refine fin_ret [.tmp 4] [.int .i64 0] rfl ⟨rfl, trivial⟩ ?_
   have H26 := S.tkShut (l := (((r3.l.set k2 (⟨x4.name, (x4.failed + 1), x4.after, x4.ans, x4.told⟩ : Tk)).set k2 (⟨x4.name, (x4.failed + 1), (n + waitS (x4.failed + 1)), x4.ans, x4.told⟩ : Tk)).set k2 (⟨x4.name, (x4.failed + 1), (n + waitS (x4.failed + 1)), x4.ans, true⟩ : Tk))) hr3 (by simp) (H25.takes [0, 1, 3, 2, 4] (by decide))
   have hE : failE (RPS rs now und nm ev beg who dne stp hol) n = 0 := by unfold failE; rw [if_neg (by show ¬ tellS now n ≠ 0; rw [htl9]; decide), if_neg (by unfold RPS; rw [hun11]; simp)]
   have hc : (RPS rs now und nm ev beg who dne stp hol).cur = some (nm, ev) := by unfold RPS; rw [hun11]; rfl
   exact ⟨P, C, (rs.set i1 ⟨r3.p, r3.c, (((r3.l.set k2 (⟨x4.name, (x4.failed + 1), x4.after, x4.ans, x4.told⟩ : Tk)).set k2 (⟨x4.name, (x4.failed + 1), (n + waitS (x4.failed + 1)), x4.ans, x4.told⟩ : Tk)).set k2 (⟨x4.name, (x4.failed + 1), (n + waitS (x4.failed + 1)), x4.ans, true⟩ : Tk))⟩), n, false, nm, ev, beg, who, dne, stp, hol, (by unfold failA; rw [if_pos hE, hc]; show _ = (match (RPS rs now und nm ev beg who dne stp hol).place nm with | some p => _ | none => _); rw [hfx5]; unfold RPS setP failT; simp only [List.set_set, set_T, getD_T hr3]; simp [hb23]), (by rw [hE]; rfl), H26.takes [0, 1, 2, 3] (by decide)⟩
  ·
   refine g_cond_f rfl (decide_eq_false hb23) ?_
   refine g_skip ?_
   refine g_then ?_
   refine w_s ?_
   refine w_a ?_
   refine w_e ?_
   refine g_ret ?_
   refine fin_ret [.tmp 4] [.int .i64 0] rfl ⟨rfl, trivial⟩ ?_
   have H27 := S.tkShut (l := ((r3.l.set k2 (⟨x4.name, (x4.failed + 1), x4.after, x4.ans, x4.told⟩ : Tk)).set k2 (⟨x4.name, (x4.failed + 1), (n + waitS (x4.failed + 1)), x4.ans, x4.told⟩ : Tk))) hr3 (by simp) (H22.takes [0, 1, 3, 2, 4] (by decide))
   have hE : failE (RPS rs now und nm ev beg who dne stp hol) n = 0 := by unfold failE; rw [if_neg (by show ¬ tellS now n ≠ 0; rw [htl9]; decide), if_neg (by unfold RPS; rw [hun11]; simp)]
   have hc : (RPS rs now und nm ev beg who dne stp hol).cur = some (nm, ev) := by unfold RPS; rw [hun11]; rfl
   exact ⟨P, C, (rs.set i1 ⟨r3.p, r3.c, ((r3.l.set k2 (⟨x4.name, (x4.failed + 1), x4.after, x4.ans, x4.told⟩ : Tk)).set k2 (⟨x4.name, (x4.failed + 1), (n + waitS (x4.failed + 1)), x4.ans, x4.told⟩ : Tk))⟩), n, false, nm, ev, beg, who, dne, stp, hol, (by unfold failA; rw [if_pos hE, hc]; show _ = (match (RPS rs now und nm ev beg who dne stp hol).place nm with | some p => _ | none => _); rw [hfx5]; unfold RPS setP failT; simp only [List.set_set, set_T, getD_T hr3]; simp [hb23]), (by rw [hE]; rfl), H27.takes [0, 1, 2, 3] (by decide)⟩
end Go.Proofs.Ytibdlnjnomikjaa
