import Derived.Test.YtibdlnjnomikjaaFk
import Derived.Test.YtibdlnjnomikjaaUe
set_option linter.unusedSimpArgs false
set_option linter.unusedVariables false
namespace Go.Proofs.Ytibdlnjnomikjaa
open Go.RowKit

theorem map_take_set {rs : List (Ro Tk)} {i : Nat} {q : Ro Tk} : ((rs.set i q).map fun r => r.l) = (rs.map fun r => r.l).set i q.l := by rw [List.map_set]
theorem len_mid {rs : List (Ro Tk)} {T : List (List Tk)} {i : Nat} (h : (rs.map fun r => r.l) = (T.take i).map (fun l => l.map zeroT) ++ T.drop i) : rs.length = T.length := by
  have := congrArg List.length h
  simpa using (show rs.length = T.length by simp at this; omega)
theorem mid_at {T U : List (List Tk)} {i : Nat} {l : List Tk} (h : U = (T.take i).map (fun l => l.map zeroT) ++ T.drop i) (hU : U[i]? = some l) (hi : i < T.length) : T[i]? = some l := by
  rw [h] at hU
  obtain ⟨l2, hl2⟩ := ex_at (l := T) hi
  rw [zero_at (fun l => l.map zeroT) hl2] at hU
  rw [hl2]; exact hU
theorem zeroL_at {l : List Tk} {k : Nat} {x : Tk} (h : (zeroL l k)[k]? = some x) (hk : k < l.length) : l[k]? = some x := by
  obtain ⟨y, hy⟩ := ex_at (l := l) hk
  unfold zeroL at h
  rw [zero_at zeroT hy] at h
  rw [hy]; exact h
set_option maxRecDepth 20000 in
set_option maxHeartbeats 4000000 in
theorem start_R {g C : Nat} {P : Option Addr} {rs : List (Ro Tk)} {now ev hol : Int} {nm : ByteArray} {und beg who dne stp : Bool} (hrs : rs.length ≤ 20) (hrl : ∀ r ∈ rs, r.l.length ≤ 20)  (w : World) (HS : S w [Ob g (.cells #[.slice P rs.length C, .int .i64 now, .bool und, .string nm, .int .i64 ev, .bool beg, .bool who, .bool dne, .bool stp, .int .i64 hol] 84 (0, 0)), Rw 85 1 P rs.length C (fl rowL rs), RowsI 87 5 tkL rs]) : Calls Try.prog 44 #[.pointer (some ⟨g, 0, none⟩)] w fun e w' => ∃ (P' : Option Addr) (C' : Nat) (rs' : List (Ro Tk)) (now' : Int) (und' : Bool) (nm' : ByteArray) (ev' : Int) (beg' who' dne' stp' : Bool) (hol' : Int), RPS rs' now' und' nm' ev' beg' who' dne' stp' hol' = startA (RPS rs now und nm ev beg who dne stp hol) ∧ e = .returned (.int .i64 (startE (RPS rs now und nm ev beg who dne stp hol))) ∧ S w' ([Ob g (.cells #[.slice P' rs'.length C', .int .i64 (now'), .bool und', .string (nm'), .int .i64 (ev'), .bool beg', .bool who', .bool dne', .bool stp', .int .i64 (hol')] 84 (0, 0)), Rw 85 1 P' rs'.length C' (fl rowL rs'), RowsI 87 5 tkL rs'] ++ [Old w (fps [Ob g (.cells #[.slice P rs.length C, .int .i64 now, .bool und, .string nm, .int .i64 ev, .bool beg, .bool who, .bool dne, .bool stp, .int .i64 hol] 84 (0, 0)), Rw 85 1 P rs.length C (fl rowL rs), RowsI 87 5 tkL rs])]) := by
 have H0 := HS.beginI
 refine enter 79 Try.func44 rfl rfl rfl ?_
 refine g_weak [(0, .pointer (some ⟨g, 0, none⟩))] ⟨rfl, trivial⟩ ?_
 refine w_s ?_
 refine w_a ?_
 refine w_e ?_
 refine g_seq ?_
 refine g_block ?_
 refine w_s ?_
 refine w_m ?_
 refine w_b (v := .bool false) (hb := (b_eqN (r := false) Try.underlying48 rfl)) ?_
 refine w_a ?_
 refine w_e ?_
 refine g_cond_f rfl rfl ?_
 refine w_s ?_
 refine w_r3 ?_
 refine w_1 H0 0 ?_
 refine w_v (v := .bool (!stp)) (x_not (b := stp) rfl rfl) ?_
 refine w_a ?_
 refine w_e ?_
 rcases Bool.eq_false_or_eq_true (stp) with hb1 | hb1
 ·
  refine g_cond_f rfl (neg_of hb1) ?_
  refine g_skip ?_
  refine g_in ?_
  refine g_then ?_
  refine w_s ?_
  refine w_r5 ?_
  refine l_of (w_st #[.slice P rs.length C, .int .i64 now, .bool und, .string nm, .int .i64 ev, .bool beg, .bool who, .bool dne, .bool false, .int .i64 hol] H0 0 ?_)
  intro wq2 H3
  refine w_r2 ?_
  refine l_of (w_st #[.slice P rs.length C, .int .i64 now, .bool und, .string nm, .int .i64 ev, .bool false, .bool who, .bool dne, .bool false, .int .i64 hol] H3 0 ?_)
  intro wq4 H5
  refine w_r2 ?_
  refine l_of (w_st #[.slice P rs.length C, .int .i64 now, .bool und, .string nm, .int .i64 ev, .bool false, .bool who, .bool dne, .bool false, .int .i64 0] H5 0 ?_)
  intro wq6 H7
  refine w_e ?_
  refine g_weak [(0, .pointer (some ⟨g, 0, none⟩))] ⟨rfl, trivial⟩ ?_
  refine w_s ?_
  refine w_r4 ?_
  refine w_1 H7 0 ?_
  refine w_m ?_
  rcases Bool.eq_false_or_eq_true (who) with hb8 | hb8
  ·
   refine w_n hb8 ?_
   refine w_n hb8 ?_
   refine w_n hb8 ?_
   refine w_n hb8 ?_
   refine w_v (v := .bool true) (x_pick_t rfl rfl hb8 rfl) ?_
   refine w_r2 ?_
   refine l_of (w_st #[.slice P rs.length C, .int .i64 now, .bool und, .string nm, .int .i64 ev, .bool false, .bool true, .bool dne, .bool false, .int .i64 0] H7 0 ?_)
   intro wq9 H10
   refine w_e ?_
   refine g_weak [(0, .pointer (some ⟨g, 0, none⟩))] ⟨rfl, trivial⟩ ?_
   refine g_seq ?_
   refine w_s ?_
   refine w_r3 ?_
   refine w_1 H10 0 ?_
   refine w_v (v := .int .i64 ((rs.length : Int))) (x_lenl rfl rfl Try.underlying82) ?_
   refine w_m ?_
   refine w_e ?_
   refine g_block ?_
   refine g_loop (ι := Nat × List (Ro Tk)) (fun (i, qs) => [(0, .pointer (some ⟨g, 0, none⟩)), (41, .int .i64 ((rs.length : Int))), (42, .int .i64 ((i : Int)))]) (fun (i, qs) wx => (i ≤ rs.length) ∧ ((qs.map fun r => r.l) = ((rs.map fun r => r.l).take i).map (fun l => l.map zeroT) ++ (rs.map fun r => r.l).drop i) ∧ S wx [Ob g (.cells #[.slice P qs.length C, .int .i64 now, .bool und, .string nm, .int .i64 ev, .bool false, .bool ((who || dne)), .bool dne, .bool false, .int .i64 0] 84 (0, 0)), Rw 85 1 P qs.length C (fl rowL qs), RowsI 87 5 tkL qs, Old w (fps [Ob g (.cells #[.slice P rs.length C, .int .i64 now, .bool und, .string nm, .int .i64 ev, .bool beg, .bool who, .bool dne, .bool stp, .int .i64 hol] 84 (0, 0)), Rw 85 1 P rs.length C (fl rowL rs), RowsI 87 5 tkL rs])]) (fun (i, qs) => rs.length - i) (0, rs) ⟨rfl, rfl, rfl, trivial⟩ ⟨Nat.zero_le _, (by simp), (by have hwd : (who || dne) = true := (by simp [hb1, hb8]); rw [hwd]; exact H10.takes [0, 1, 2, 3] (by decide))⟩ ?_
   rintro ⟨i, qs⟩ wq11 ⟨hi, hq, H12⟩
   refine g_weak [(0, .pointer (some ⟨g, 0, none⟩)), (41, .int .i64 ((rs.length : Int))), (42, .int .i64 ((i : Int)))] ⟨rfl, rfl, rfl, trivial⟩ ?_
   have hql := len_mid hq
   rw [List.length_map] at hql
   refine w_s ?_
   refine w_b ?_
   refine w_e ?_
   refine g_seq ?_
   by_cases hb13 : ((i : Int) : Int) < (rs.length : Int)
   ·
    refine g_cond_t rfl (decide_eq_true hb13) ?_
    refine g_skip ?_
    refine g_then ?_
    refine g_seq ?_
    refine g_block ?_
    refine w_s ?_
    refine w_r2 ?_
    refine w_e ?_
    refine w_s ?_
    refine w_r3 ?_
    refine w_1 H12 0 ?_
    refine w_m ?_
    refine w_v (v := .pointer ((P).map fun q => q.add (i * 1))) (x_idxR i (H12.rwReads (k := 1) rfl) rfl rfl rfl Try.underlying82 sz85 (by omega)) ?_
    have hlq := (H12.rwReads (k := 1) rfl).lenL rowE
    obtain ⟨x14, hx14⟩ := ex_at (l := qs) (j := i) (by omega)
    clear hlq
    have hTr := mid_at hq (map_at hx14) (by rw [List.length_map]; omega)
    obtain ⟨r0, hr0, hr0l⟩ := Option.map_eq_some_iff.1 ((List.getElem?_map ..).symm.trans hTr)
    have hrl0 := hrl r0 (List.mem_of_getElem? hr0)
    have hrlx : x14.l.length ≤ 20 := by rw [← hr0l]; exact hrl0
    refine w_v (v := .slice x14.p x14.l.length x14.c) (x_loadR1 i (H12.rwReads (k := 1) rfl) (by omega) rfl rfl Try.underlying85 rfl (rowE.flAt1 hx14 rfl)) ?_
    refine w_v (v := .int .i64 ((x14.l.length : Int))) (x_lenl rfl rfl Try.underlying85) ?_
    refine w_m ?_
    refine w_e ?_
    refine g_block ?_
    refine g_loop (ι := Nat × List (Ro Tk)) (fun (k, qs2) => [(0, .pointer (some ⟨g, 0, none⟩)), (3, .int .i64 ((i : Int))), (41, .int .i64 ((rs.length : Int))), (42, .int .i64 ((i : Int))), (52, .int .i64 ((x14.l.length : Int))), (53, .int .i64 ((k : Int)))]) (fun (k, qs2) wx => (k ≤ x14.l.length) ∧ (qs2 = qs.set i ⟨x14.p, x14.c, zeroL x14.l k⟩) ∧ S wx [Ob g (.cells #[.slice P qs2.length C, .int .i64 now, .bool und, .string nm, .int .i64 ev, .bool false, .bool ((who || dne)), .bool dne, .bool false, .int .i64 0] 84 (0, 0)), Rw 85 1 P qs2.length C (fl rowL qs2), RowsI 87 5 tkL qs2, Old w (fps [Ob g (.cells #[.slice P rs.length C, .int .i64 now, .bool und, .string nm, .int .i64 ev, .bool beg, .bool who, .bool dne, .bool stp, .int .i64 hol] 84 (0, 0)), Rw 85 1 P rs.length C (fl rowL rs), RowsI 87 5 tkL rs])]) (fun (k, qs2) => x14.l.length - k) (0, qs) ⟨rfl, rfl, rfl, rfl, rfl, rfl, trivial⟩ ⟨Nat.zero_le _, (by rw [zeroL_0]; exact (set_self hx14).symm), (H12.takes [0, 1, 2, 3] (by decide))⟩ ?_
    rintro ⟨k, qs2⟩ wq15 ⟨hk, hq2, H16⟩
    refine g_weak [(0, .pointer (some ⟨g, 0, none⟩)), (3, .int .i64 ((i : Int))), (41, .int .i64 ((rs.length : Int))), (42, .int .i64 ((i : Int))), (52, .int .i64 ((x14.l.length : Int))), (53, .int .i64 ((k : Int)))] ⟨rfl, rfl, rfl, rfl, rfl, rfl, trivial⟩ ?_
    have hql2 : qs2.length = qs.length := by rw [hq2, List.length_set]
    refine w_s ?_
    refine w_b ?_
    refine w_e ?_
    refine g_seq ?_
    by_cases hb17 : ((k : Int) : Int) < (x14.l.length : Int)
    ·
     refine g_cond_t rfl (decide_eq_true hb17) ?_
     refine g_skip ?_
     refine g_then ?_
     refine g_seq ?_
     refine g_block ?_
     refine w_s ?_
     refine w_r2 ?_
     refine w_e ?_
     refine w_s ?_
     refine w_r3 ?_
     refine w_1 H16 0 ?_
     refine w_m ?_
     refine w_v (v := .pointer ((P).map fun q => q.add (i * 1))) (x_idxR i (H16.rwReads (k := 1) rfl) rfl rfl rfl Try.underlying82 sz85 (by omega)) ?_
     have hlq := (H16.rwReads (k := 1) rfl).lenL rowE
     obtain ⟨x18, hx18⟩ := ex_at (l := qs2) (j := i) (by omega)
     clear hlq
     have hx18e : x18 = ⟨x14.p, x14.c, zeroL x14.l k⟩ := by have h9 := hx18; rw [hq2, List.getElem?_set_self (List.getElem?_eq_some_iff.1 hx14).1] at h9; exact (Option.some.inj h9).symm
     have hl2 : x18.l.length = x14.l.length := by rw [hx18e]; exact zeroL_len _ _
     refine w_v (v := .slice x18.p x18.l.length x18.c) (x_loadR1 i (H16.rwReads (k := 1) rfl) (by omega) rfl rfl Try.underlying85 rfl (rowE.flAt1 hx18 rfl)) ?_
     refine w_m ?_
     refine w_v (v := .pointer ((x18.p).map fun q => q.add (k * 5))) (x_idxR k ((rows_in (H16.at (k := 2) rfl) (.inl (List.mem_of_getElem? hx18)))) rfl rfl rfl Try.underlying85 sz87 (by omega)) ?_
     have H19 := S.rowsOut (H16.takes [2, 0, 1, 3] (by decide)) hx18
     refine w_a ?_
     refine w_e ?_
     refine g_weak [(0, .pointer (some ⟨g, 0, none⟩)), (3, .int .i64 ((i : Int))), (5, .pointer ((x18.p).map fun q => q.add (k * 5))), (41, .int .i64 ((rs.length : Int))), (42, .int .i64 ((i : Int))), (52, .int .i64 ((x14.l.length : Int))), (53, .int .i64 ((k : Int)))] ⟨rfl, rfl, rfl, rfl, rfl, rfl, rfl, trivial⟩ ?_
     refine g_region ?_
     refine w_r4 ?_
     refine w_v (x_nilCheckG ((H19.rwReads (k := 0) rfl).some (by omega)) rfl rfl) ?_
     refine w_v (v := .pointer ((x18.p).map fun q => q.add (k * 5 + 1))) (ex_cast (x_fieldAddrG (m := k * 5) ((H19.rwReads (k := 0) rfl).some (by omega)) rfl rfl fo87_1) rfl) ?_
     have hlq := (H19.rwReads (k := 0) rfl).lenL tkE
     obtain ⟨x20, hx20⟩ := ex_at (l := x18.l) (j := k) (by omega)
     clear hlq
     have hxr : x14.l[k]? = some x20 := zeroL_at (by rw [← show x18.l = zeroL x14.l k from by rw [hx18e]]; exact hx20) (by omega)
     refine l_of (s_fldL (i := 1) (j := k) tkE (⟨x20.name, 0, x20.after, x20.ans, x20.told⟩ : Tk) H19 0 (wt0 rfl) rfl rfl rfl rfl rfl hx20 rfl (by decide) sz3 rfl rfl ?_)
     intro wq21 H22
     refine w_v (x_nilCheckG ((H22.rwReads (k := 0) rfl).some (by omega)) rfl rfl) ?_
     refine w_v (v := .pointer ((x18.p).map fun q => q.add (k * 5 + 2))) (ex_cast (x_fieldAddrG (m := k * 5) ((H22.rwReads (k := 0) rfl).some (by omega)) rfl rfl fo87_2) rfl) ?_
     refine l_of (s_fldL (i := 2) (j := k) tkE (⟨x20.name, 0, 0, x20.ans, x20.told⟩ : Tk) H22 0 (wt0 rfl) rfl rfl rfl rfl rfl (set_at hx20) rfl (by decide) sz3 rfl rfl ?_)
     intro wq23 H24
     refine w_v (x_nilCheckG ((H24.rwReads (k := 0) rfl).some (by omega)) rfl rfl) ?_
     refine w_v (v := .pointer ((x18.p).map fun q => q.add (k * 5 + 3))) (ex_cast (x_fieldAddrG (m := k * 5) ((H24.rwReads (k := 0) rfl).some (by omega)) rfl rfl fo87_3) rfl) ?_
     refine l_of (s_fldL (i := 3) (j := k) tkE (⟨x20.name, 0, 0, false, x20.told⟩ : Tk) H24 0 (wt0 rfl) rfl rfl rfl rfl rfl (set_at (set_at hx20)) rfl (by decide) sz4 rfl rfl ?_)
     intro wq25 H26
     refine w_v (x_nilCheckG ((H26.rwReads (k := 0) rfl).some (by omega)) rfl rfl) ?_
     refine w_v (v := .pointer ((x18.p).map fun q => q.add (k * 5 + 4))) (ex_cast (x_fieldAddrG (m := k * 5) ((H26.rwReads (k := 0) rfl).some (by omega)) rfl rfl fo87_4) rfl) ?_
     refine l_of (s_fldL (i := 4) (j := k) tkE (⟨x20.name, 0, 0, false, false⟩ : Tk) H26 0 (wt0 rfl) rfl rfl rfl rfl rfl (set_at (set_at (set_at hx20))) rfl (by decide) sz4 rfl rfl ?_)
     intro wq27 H28
     refine g_nil ?_
     refine g_in ?_
     refine g_then ?_
     refine g_weak [(0, .pointer (some ⟨g, 0, none⟩)), (3, .int .i64 ((i : Int))), (41, .int .i64 ((rs.length : Int))), (42, .int .i64 ((i : Int))), (52, .int .i64 ((x14.l.length : Int))), (53, .int .i64 ((k : Int)))] ⟨rfl, rfl, rfl, rfl, rfl, rfl, trivial⟩ ?_
     refine g_region ?_
     refine w_b (v := .int .i64 (((k + 1 : Nat) : Int))) (hb := (b_add (by rw [w64 (by omega)]; omega))) ?_
     refine w_m ?_
     refine w_e ?_
     refine g_round (i := (k, qs2)) ((k + 1), (qs2.set i ⟨x18.p, x18.c, ((((x18.l.set k (⟨x20.name, 0, x20.after, x20.ans, x20.told⟩ : Tk)).set k (⟨x20.name, 0, 0, x20.ans, x20.told⟩ : Tk)).set k (⟨x20.name, 0, 0, false, x20.told⟩ : Tk)).set k (⟨x20.name, 0, 0, false, false⟩ : Tk))⟩)) ?_ ?_ ?_
     · exact ⟨rfl, rfl, rfl, rfl, rfl, rfl, trivial⟩
     · exact ⟨by omega, (by rw [hq2, List.set_set, hx18e]; simp only [List.set_set]; exact congrArg (fun z => qs.set i (⟨x14.p, x14.c, z⟩ : Ro Tk)) (zero_step zeroT hxr)), (by have H30 := S.tkShut (l := ((((x18.l.set k (⟨x20.name, 0, x20.after, x20.ans, x20.told⟩ : Tk)).set k (⟨x20.name, 0, 0, x20.ans, x20.told⟩ : Tk)).set k (⟨x20.name, 0, 0, false, x20.told⟩ : Tk)).set k (⟨x20.name, 0, 0, false, false⟩ : Tk))) hx18 (by simp) (H28.takes [0, 1, 3, 2, 4] (by decide)); replace H30 : S wq27 [Ob g (.cells #[.slice P ((qs2.set i ⟨x18.p, x18.c, ((((x18.l.set k (⟨x20.name, 0, x20.after, x20.ans, x20.told⟩ : Tk)).set k (⟨x20.name, 0, 0, x20.ans, x20.told⟩ : Tk)).set k (⟨x20.name, 0, 0, false, x20.told⟩ : Tk)).set k (⟨x20.name, 0, 0, false, false⟩ : Tk))⟩).length) C, .int .i64 now, .bool und, .string nm, .int .i64 ev, .bool false, .bool ((who || dne)), .bool dne, .bool false, .int .i64 0] 84 (0, 0)), Rw 85 1 P ((qs2.set i ⟨x18.p, x18.c, ((((x18.l.set k (⟨x20.name, 0, x20.after, x20.ans, x20.told⟩ : Tk)).set k (⟨x20.name, 0, 0, x20.ans, x20.told⟩ : Tk)).set k (⟨x20.name, 0, 0, false, x20.told⟩ : Tk)).set k (⟨x20.name, 0, 0, false, false⟩ : Tk))⟩).length) C (fl rowL (qs2.set i ⟨x18.p, x18.c, ((((x18.l.set k (⟨x20.name, 0, x20.after, x20.ans, x20.told⟩ : Tk)).set k (⟨x20.name, 0, 0, x20.ans, x20.told⟩ : Tk)).set k (⟨x20.name, 0, 0, false, x20.told⟩ : Tk)).set k (⟨x20.name, 0, 0, false, false⟩ : Tk))⟩)), RowsI 87 5 tkL (qs2.set i ⟨x18.p, x18.c, ((((x18.l.set k (⟨x20.name, 0, x20.after, x20.ans, x20.told⟩ : Tk)).set k (⟨x20.name, 0, 0, x20.ans, x20.told⟩ : Tk)).set k (⟨x20.name, 0, 0, false, x20.told⟩ : Tk)).set k (⟨x20.name, 0, 0, false, false⟩ : Tk))⟩), Old w (fps [Ob g (.cells #[.slice P rs.length C, .int .i64 now, .bool und, .string nm, .int .i64 ev, .bool beg, .bool who, .bool dne, .bool stp, .int .i64 hol] 84 (0, 0)), Rw 85 1 P rs.length C (fl rowL rs), RowsI 87 5 tkL rs])] := H30; exact H30.takes [0, 1, 2, 3] (by decide))⟩
     · (try dsimp only); omega
    ·
     refine g_cond_f rfl (decide_eq_false hb17) ?_
     refine g_exit ?_
     refine g_then_exit ?_
     refine g_then_exit ?_
     refine g_in_hit ?_
     refine g_in ?_
     refine g_then ?_
     refine g_region ?_
     refine w_b (v := .int .i64 (((i + 1 : Nat) : Int))) (hb := (b_add (by rw [w64 (by omega)]; omega))) ?_
     refine w_m ?_
     refine w_e ?_
     refine g_round (i := (i, qs)) ((i + 1), qs2) ?_ ?_ ?_
     · exact ⟨rfl, rfl, rfl, trivial⟩
     · exact ⟨by omega, (by rw [hq2, map_take_set, hq, ← zero_step (fun l => l.map zeroT) hTr, zeroL_all (by omega)]), (H16.takes [0, 1, 2, 3] (by decide))⟩
     · (try dsimp only); omega
   ·
    refine g_cond_f rfl (decide_eq_false hb13) ?_
    refine g_exit ?_
    refine g_then_exit ?_
    refine g_then_exit ?_
    refine g_in_hit ?_
    refine g_then ?_
    refine w_s ?_
    refine w_a ?_
    refine w_e ?_
    refine g_ret ?_
    refine fin_ret [.tmp 2] [.int .i64 0] rfl ⟨rfl, trivial⟩ ?_
    have hqe : (qs.map fun r => r.l) = (rs.map fun r => r.l).map (fun l => l.map zeroT) := by rw [hq, List.take_of_length_le (by rw [List.length_map]; omega), List.drop_eq_nil_of_le (by rw [List.length_map]; omega), List.append_nil]
    exact ⟨P, C, qs, now, und, nm, ev, false, (who || dne), dne, false, 0, (by unfold startA RPS; simp [hb1, hb8, hb13, hqe]), (by unfold startE RPS; simp [hb1, hb8, hb13, tupled]), H12.takes [0, 1, 2, 3] (by decide)⟩
  ·
   refine w_g hb8 xm ?_
   refine w_g hb8 xn ?_
   refine w_g hb8 (xf 7) ?_
   refine w_g hb8 (xl H7 0) ?_
   refine w_v (v := .bool dne) (x_pick_f rfl rfl hb8 rfl) ?_
   refine w_r2 ?_
   refine l_of (w_st #[.slice P rs.length C, .int .i64 now, .bool und, .string nm, .int .i64 ev, .bool false, .bool dne, .bool dne, .bool false, .int .i64 0] H7 0 ?_)
   intro wq31 H32
   refine w_e ?_
   refine g_weak [(0, .pointer (some ⟨g, 0, none⟩))] ⟨rfl, trivial⟩ ?_
   refine g_seq ?_
   refine w_s ?_
   refine w_r3 ?_
   refine w_1 H32 0 ?_
   refine w_v (v := .int .i64 ((rs.length : Int))) (x_lenl rfl rfl Try.underlying82) ?_
   refine w_m ?_
   refine w_e ?_
   refine g_block ?_
   refine g_loop (ι := Nat × List (Ro Tk)) (fun (i, qs) => [(0, .pointer (some ⟨g, 0, none⟩)), (41, .int .i64 ((rs.length : Int))), (42, .int .i64 ((i : Int)))]) (fun (i, qs) wx => (i ≤ rs.length) ∧ ((qs.map fun r => r.l) = ((rs.map fun r => r.l).take i).map (fun l => l.map zeroT) ++ (rs.map fun r => r.l).drop i) ∧ S wx [Ob g (.cells #[.slice P qs.length C, .int .i64 now, .bool und, .string nm, .int .i64 ev, .bool false, .bool ((who || dne)), .bool dne, .bool false, .int .i64 0] 84 (0, 0)), Rw 85 1 P qs.length C (fl rowL qs), RowsI 87 5 tkL qs, Old w (fps [Ob g (.cells #[.slice P rs.length C, .int .i64 now, .bool und, .string nm, .int .i64 ev, .bool beg, .bool who, .bool dne, .bool stp, .int .i64 hol] 84 (0, 0)), Rw 85 1 P rs.length C (fl rowL rs), RowsI 87 5 tkL rs])]) (fun (i, qs) => rs.length - i) (0, rs) ⟨rfl, rfl, rfl, trivial⟩ ⟨Nat.zero_le _, (by simp), (by have hwd : (who || dne) = dne := (by simp [hb1, hb8]); rw [hwd]; exact H32.takes [0, 1, 2, 3] (by decide))⟩ ?_
   rintro ⟨i, qs⟩ wq33 ⟨hi, hq, H34⟩
   refine g_weak [(0, .pointer (some ⟨g, 0, none⟩)), (41, .int .i64 ((rs.length : Int))), (42, .int .i64 ((i : Int)))] ⟨rfl, rfl, rfl, trivial⟩ ?_
   have hql := len_mid hq
   rw [List.length_map] at hql
   refine w_s ?_
   refine w_b ?_
   refine w_e ?_
   refine g_seq ?_
   by_cases hb35 : ((i : Int) : Int) < (rs.length : Int)
   ·
    refine g_cond_t rfl (decide_eq_true hb35) ?_
    refine g_skip ?_
    refine g_then ?_
    refine g_seq ?_
    refine g_block ?_
    refine w_s ?_
    refine w_r2 ?_
    refine w_e ?_
    refine w_s ?_
    refine w_r3 ?_
    refine w_1 H34 0 ?_
    refine w_m ?_
    refine w_v (v := .pointer ((P).map fun q => q.add (i * 1))) (x_idxR i (H34.rwReads (k := 1) rfl) rfl rfl rfl Try.underlying82 sz85 (by omega)) ?_
    have hlq := (H34.rwReads (k := 1) rfl).lenL rowE
    obtain ⟨x36, hx36⟩ := ex_at (l := qs) (j := i) (by omega)
    clear hlq
    have hTr := mid_at hq (map_at hx36) (by rw [List.length_map]; omega)
    obtain ⟨r0, hr0, hr0l⟩ := Option.map_eq_some_iff.1 ((List.getElem?_map ..).symm.trans hTr)
    have hrl0 := hrl r0 (List.mem_of_getElem? hr0)
    have hrlx : x36.l.length ≤ 20 := by rw [← hr0l]; exact hrl0
    refine w_v (v := .slice x36.p x36.l.length x36.c) (x_loadR1 i (H34.rwReads (k := 1) rfl) (by omega) rfl rfl Try.underlying85 rfl (rowE.flAt1 hx36 rfl)) ?_
    refine w_v (v := .int .i64 ((x36.l.length : Int))) (x_lenl rfl rfl Try.underlying85) ?_
    refine w_m ?_
    refine w_e ?_
    refine g_block ?_
    refine g_loop (ι := Nat × List (Ro Tk)) (fun (k, qs2) => [(0, .pointer (some ⟨g, 0, none⟩)), (3, .int .i64 ((i : Int))), (41, .int .i64 ((rs.length : Int))), (42, .int .i64 ((i : Int))), (52, .int .i64 ((x36.l.length : Int))), (53, .int .i64 ((k : Int)))]) (fun (k, qs2) wx => (k ≤ x36.l.length) ∧ (qs2 = qs.set i ⟨x36.p, x36.c, zeroL x36.l k⟩) ∧ S wx [Ob g (.cells #[.slice P qs2.length C, .int .i64 now, .bool und, .string nm, .int .i64 ev, .bool false, .bool ((who || dne)), .bool dne, .bool false, .int .i64 0] 84 (0, 0)), Rw 85 1 P qs2.length C (fl rowL qs2), RowsI 87 5 tkL qs2, Old w (fps [Ob g (.cells #[.slice P rs.length C, .int .i64 now, .bool und, .string nm, .int .i64 ev, .bool beg, .bool who, .bool dne, .bool stp, .int .i64 hol] 84 (0, 0)), Rw 85 1 P rs.length C (fl rowL rs), RowsI 87 5 tkL rs])]) (fun (k, qs2) => x36.l.length - k) (0, qs) ⟨rfl, rfl, rfl, rfl, rfl, rfl, trivial⟩ ⟨Nat.zero_le _, (by rw [zeroL_0]; exact (set_self hx36).symm), (H34.takes [0, 1, 2, 3] (by decide))⟩ ?_
    rintro ⟨k, qs2⟩ wq37 ⟨hk, hq2, H38⟩
    refine g_weak [(0, .pointer (some ⟨g, 0, none⟩)), (3, .int .i64 ((i : Int))), (41, .int .i64 ((rs.length : Int))), (42, .int .i64 ((i : Int))), (52, .int .i64 ((x36.l.length : Int))), (53, .int .i64 ((k : Int)))] ⟨rfl, rfl, rfl, rfl, rfl, rfl, trivial⟩ ?_
    have hql2 : qs2.length = qs.length := by rw [hq2, List.length_set]
    refine w_s ?_
    refine w_b ?_
    refine w_e ?_
    refine g_seq ?_
    by_cases hb39 : ((k : Int) : Int) < (x36.l.length : Int)
    ·
     refine g_cond_t rfl (decide_eq_true hb39) ?_
     refine g_skip ?_
     refine g_then ?_
     refine g_seq ?_
     refine g_block ?_
     refine w_s ?_
     refine w_r2 ?_
     refine w_e ?_
     refine w_s ?_
     refine w_r3 ?_
     refine w_1 H38 0 ?_
     refine w_m ?_
     refine w_v (v := .pointer ((P).map fun q => q.add (i * 1))) (x_idxR i (H38.rwReads (k := 1) rfl) rfl rfl rfl Try.underlying82 sz85 (by omega)) ?_
     have hlq := (H38.rwReads (k := 1) rfl).lenL rowE
     obtain ⟨x40, hx40⟩ := ex_at (l := qs2) (j := i) (by omega)
     clear hlq
     have hx40e : x40 = ⟨x36.p, x36.c, zeroL x36.l k⟩ := by have h9 := hx40; rw [hq2, List.getElem?_set_self (List.getElem?_eq_some_iff.1 hx36).1] at h9; exact (Option.some.inj h9).symm
     have hl2 : x40.l.length = x36.l.length := by rw [hx40e]; exact zeroL_len _ _
     refine w_v (v := .slice x40.p x40.l.length x40.c) (x_loadR1 i (H38.rwReads (k := 1) rfl) (by omega) rfl rfl Try.underlying85 rfl (rowE.flAt1 hx40 rfl)) ?_
     refine w_m ?_
     refine w_v (v := .pointer ((x40.p).map fun q => q.add (k * 5))) (x_idxR k ((rows_in (H38.at (k := 2) rfl) (.inl (List.mem_of_getElem? hx40)))) rfl rfl rfl Try.underlying85 sz87 (by omega)) ?_
     have H41 := S.rowsOut (H38.takes [2, 0, 1, 3] (by decide)) hx40
     refine w_a ?_
     refine w_e ?_
     refine g_weak [(0, .pointer (some ⟨g, 0, none⟩)), (3, .int .i64 ((i : Int))), (5, .pointer ((x40.p).map fun q => q.add (k * 5))), (41, .int .i64 ((rs.length : Int))), (42, .int .i64 ((i : Int))), (52, .int .i64 ((x36.l.length : Int))), (53, .int .i64 ((k : Int)))] ⟨rfl, rfl, rfl, rfl, rfl, rfl, rfl, trivial⟩ ?_
     refine g_region ?_
     refine w_r4 ?_
     refine w_v (x_nilCheckG ((H41.rwReads (k := 0) rfl).some (by omega)) rfl rfl) ?_
     refine w_v (v := .pointer ((x40.p).map fun q => q.add (k * 5 + 1))) (ex_cast (x_fieldAddrG (m := k * 5) ((H41.rwReads (k := 0) rfl).some (by omega)) rfl rfl fo87_1) rfl) ?_
     have hlq := (H41.rwReads (k := 0) rfl).lenL tkE
     obtain ⟨x42, hx42⟩ := ex_at (l := x40.l) (j := k) (by omega)
     clear hlq
     have hxr : x36.l[k]? = some x42 := zeroL_at (by rw [← show x40.l = zeroL x36.l k from by rw [hx40e]]; exact hx42) (by omega)
     refine l_of (s_fldL (i := 1) (j := k) tkE (⟨x42.name, 0, x42.after, x42.ans, x42.told⟩ : Tk) H41 0 (wt0 rfl) rfl rfl rfl rfl rfl hx42 rfl (by decide) sz3 rfl rfl ?_)
     intro wq43 H44
     refine w_v (x_nilCheckG ((H44.rwReads (k := 0) rfl).some (by omega)) rfl rfl) ?_
     refine w_v (v := .pointer ((x40.p).map fun q => q.add (k * 5 + 2))) (ex_cast (x_fieldAddrG (m := k * 5) ((H44.rwReads (k := 0) rfl).some (by omega)) rfl rfl fo87_2) rfl) ?_
     refine l_of (s_fldL (i := 2) (j := k) tkE (⟨x42.name, 0, 0, x42.ans, x42.told⟩ : Tk) H44 0 (wt0 rfl) rfl rfl rfl rfl rfl (set_at hx42) rfl (by decide) sz3 rfl rfl ?_)
     intro wq45 H46
     refine w_v (x_nilCheckG ((H46.rwReads (k := 0) rfl).some (by omega)) rfl rfl) ?_
     refine w_v (v := .pointer ((x40.p).map fun q => q.add (k * 5 + 3))) (ex_cast (x_fieldAddrG (m := k * 5) ((H46.rwReads (k := 0) rfl).some (by omega)) rfl rfl fo87_3) rfl) ?_
     refine l_of (s_fldL (i := 3) (j := k) tkE (⟨x42.name, 0, 0, false, x42.told⟩ : Tk) H46 0 (wt0 rfl) rfl rfl rfl rfl rfl (set_at (set_at hx42)) rfl (by decide) sz4 rfl rfl ?_)
     intro wq47 H48
     refine w_v (x_nilCheckG ((H48.rwReads (k := 0) rfl).some (by omega)) rfl rfl) ?_
     refine w_v (v := .pointer ((x40.p).map fun q => q.add (k * 5 + 4))) (ex_cast (x_fieldAddrG (m := k * 5) ((H48.rwReads (k := 0) rfl).some (by omega)) rfl rfl fo87_4) rfl) ?_
     refine l_of (s_fldL (i := 4) (j := k) tkE (⟨x42.name, 0, 0, false, false⟩ : Tk) H48 0 (wt0 rfl) rfl rfl rfl rfl rfl (set_at (set_at (set_at hx42))) rfl (by decide) sz4 rfl rfl ?_)
     intro wq49 H50
     refine g_nil ?_
     refine g_in ?_
     refine g_then ?_
     refine g_weak [(0, .pointer (some ⟨g, 0, none⟩)), (3, .int .i64 ((i : Int))), (41, .int .i64 ((rs.length : Int))), (42, .int .i64 ((i : Int))), (52, .int .i64 ((x36.l.length : Int))), (53, .int .i64 ((k : Int)))] ⟨rfl, rfl, rfl, rfl, rfl, rfl, trivial⟩ ?_
     refine g_region ?_
     refine w_b (v := .int .i64 (((k + 1 : Nat) : Int))) (hb := (b_add (by rw [w64 (by omega)]; omega))) ?_
     refine w_m ?_
     refine w_e ?_
     refine g_round (i := (k, qs2)) ((k + 1), (qs2.set i ⟨x40.p, x40.c, ((((x40.l.set k (⟨x42.name, 0, x42.after, x42.ans, x42.told⟩ : Tk)).set k (⟨x42.name, 0, 0, x42.ans, x42.told⟩ : Tk)).set k (⟨x42.name, 0, 0, false, x42.told⟩ : Tk)).set k (⟨x42.name, 0, 0, false, false⟩ : Tk))⟩)) ?_ ?_ ?_
     · exact ⟨rfl, rfl, rfl, rfl, rfl, rfl, trivial⟩
     · exact ⟨by omega, (by rw [hq2, List.set_set, hx40e]; simp only [List.set_set]; exact congrArg (fun z => qs.set i (⟨x36.p, x36.c, z⟩ : Ro Tk)) (zero_step zeroT hxr)), (by have H52 := S.tkShut (l := ((((x40.l.set k (⟨x42.name, 0, x42.after, x42.ans, x42.told⟩ : Tk)).set k (⟨x42.name, 0, 0, x42.ans, x42.told⟩ : Tk)).set k (⟨x42.name, 0, 0, false, x42.told⟩ : Tk)).set k (⟨x42.name, 0, 0, false, false⟩ : Tk))) hx40 (by simp) (H50.takes [0, 1, 3, 2, 4] (by decide)); replace H52 : S wq49 [Ob g (.cells #[.slice P ((qs2.set i ⟨x40.p, x40.c, ((((x40.l.set k (⟨x42.name, 0, x42.after, x42.ans, x42.told⟩ : Tk)).set k (⟨x42.name, 0, 0, x42.ans, x42.told⟩ : Tk)).set k (⟨x42.name, 0, 0, false, x42.told⟩ : Tk)).set k (⟨x42.name, 0, 0, false, false⟩ : Tk))⟩).length) C, .int .i64 now, .bool und, .string nm, .int .i64 ev, .bool false, .bool ((who || dne)), .bool dne, .bool false, .int .i64 0] 84 (0, 0)), Rw 85 1 P ((qs2.set i ⟨x40.p, x40.c, ((((x40.l.set k (⟨x42.name, 0, x42.after, x42.ans, x42.told⟩ : Tk)).set k (⟨x42.name, 0, 0, x42.ans, x42.told⟩ : Tk)).set k (⟨x42.name, 0, 0, false, x42.told⟩ : Tk)).set k (⟨x42.name, 0, 0, false, false⟩ : Tk))⟩).length) C (fl rowL (qs2.set i ⟨x40.p, x40.c, ((((x40.l.set k (⟨x42.name, 0, x42.after, x42.ans, x42.told⟩ : Tk)).set k (⟨x42.name, 0, 0, x42.ans, x42.told⟩ : Tk)).set k (⟨x42.name, 0, 0, false, x42.told⟩ : Tk)).set k (⟨x42.name, 0, 0, false, false⟩ : Tk))⟩)), RowsI 87 5 tkL (qs2.set i ⟨x40.p, x40.c, ((((x40.l.set k (⟨x42.name, 0, x42.after, x42.ans, x42.told⟩ : Tk)).set k (⟨x42.name, 0, 0, x42.ans, x42.told⟩ : Tk)).set k (⟨x42.name, 0, 0, false, x42.told⟩ : Tk)).set k (⟨x42.name, 0, 0, false, false⟩ : Tk))⟩), Old w (fps [Ob g (.cells #[.slice P rs.length C, .int .i64 now, .bool und, .string nm, .int .i64 ev, .bool beg, .bool who, .bool dne, .bool stp, .int .i64 hol] 84 (0, 0)), Rw 85 1 P rs.length C (fl rowL rs), RowsI 87 5 tkL rs])] := H52; exact H52.takes [0, 1, 2, 3] (by decide))⟩
     · (try dsimp only); omega
    ·
     refine g_cond_f rfl (decide_eq_false hb39) ?_
     refine g_exit ?_
     refine g_then_exit ?_
     refine g_then_exit ?_
     refine g_in_hit ?_
     refine g_in ?_
     refine g_then ?_
     refine g_region ?_
     refine w_b (v := .int .i64 (((i + 1 : Nat) : Int))) (hb := (b_add (by rw [w64 (by omega)]; omega))) ?_
     refine w_m ?_
     refine w_e ?_
     refine g_round (i := (i, qs)) ((i + 1), qs2) ?_ ?_ ?_
     · exact ⟨rfl, rfl, rfl, trivial⟩
     · exact ⟨by omega, (by rw [hq2, map_take_set, hq, ← zero_step (fun l => l.map zeroT) hTr, zeroL_all (by omega)]), (H38.takes [0, 1, 2, 3] (by decide))⟩
     · (try dsimp only); omega
   ·
    refine g_cond_f rfl (decide_eq_false hb35) ?_
    refine g_exit ?_
    refine g_then_exit ?_
    refine g_then_exit ?_
    refine g_in_hit ?_
    refine g_then ?_
    refine w_s ?_
    refine w_a ?_
    refine w_e ?_
    refine g_ret ?_
    refine fin_ret [.tmp 2] [.int .i64 0] rfl ⟨rfl, trivial⟩ ?_
    have hqe : (qs.map fun r => r.l) = (rs.map fun r => r.l).map (fun l => l.map zeroT) := by rw [hq, List.take_of_length_le (by rw [List.length_map]; omega), List.drop_eq_nil_of_le (by rw [List.length_map]; omega), List.append_nil]
    exact ⟨P, C, qs, now, und, nm, ev, false, (who || dne), dne, false, 0, (by unfold startA RPS; simp [hb1, hb8, hb35, hqe]), (by unfold startE RPS; simp [hb1, hb8, hb35, tupled]), H34.takes [0, 1, 2, 3] (by decide)⟩
 ·
  refine g_cond_t rfl (neg_of hb1) ?_
  refine w_s ?_
  refine w_a ?_
  refine w_e ?_
  refine g_ret ?_
  refine g_in_ret ?_
  refine g_then_ret ?_
  refine fin_ret [.tmp 2] [.int .i64 9] rfl ⟨rfl, trivial⟩ ?_
  exact ⟨P, C, rs, now, und, nm, ev, beg, who, dne, stp, hol, (by unfold startA RPS; simp [hb1]), (by unfold startE RPS; simp [hb1, tupled]), H0.takes [0, 1, 2, 3] (by decide)⟩
end Go.Proofs.Ytibdlnjnomikjaa
