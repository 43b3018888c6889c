import Derived.Test.YthfglkkjkpdkpaaGreatDoorLk
set_option linter.unusedSimpArgs false
set_option linter.unusedVariables false
namespace Go.Proofs.YthfglkkjkpdkpaaGreatDoor
open Go.RowKit

theorem cl16 : callable Tryz.prog 16 = true := by kernel_rfl
theorem cl20 : callable Tryz.prog 20 = true := by kernel_rfl
theorem cl21 : callable Tryz.prog 21 = true := by kernel_rfl
theorem reg_is {l o t : List Rv} {slots : Int} (hs : sorted1 l = o ++ t) (ho : o.length ≤ (slots - 1).toNat) (he : o.length = (slots - 1).toNat ∨ t = []) : reg1 l slots = o := by
  unfold reg1
  rw [hs]
  rcases he with he | he
  · have e : min (o ++ t).length (slots - 1).toNat = o.length := by rw [List.length_append]; omega
    rw [e]; exact List.take_left
  · subst he
    rw [List.append_nil, List.take_of_length_le (by omega)]
theorem filt2 {l : List Rv} : (l.filter qW).filter (fun x => !x.snb) = l.filter qR := by
  rw [List.filter_filter]
  refine List.filter_congr fun x _ => ?_
  unfold qR qW
  cases x.intr <;> cases x.seed <;> cases x.snb <;> rfl
theorem reg_end {k m : Nat} {B : List Rv} (h : k = m ∨ B.length = 0) : k = m ∨ srt Rv.zero c1 B = [] := h.imp_right fun h => List.eq_nil_of_length_eq_zero (by rw [srt_len, h])
set_option maxRecDepth 20000 in
set_option maxHeartbeats 4000000 in
set_option maxRecDepth 20000 in
set_option maxHeartbeats 4000000 in
theorem regular_r (slots : Int) (hsl : 0 ≤ slots ∧ slots ≤ 100) (l : List Rv) (p : Option Addr) (n c : Nat) (hn2 : n ≤ 30) (hval : ∀ x ∈ l, validR x = true)  (w : World) (hr : Reads w p n c 10 (fl rvL l)) : Calls Tryz.prog 8 #[.int .i64 slots, .slice p n c] w fun e w' => ∃ p' c', e = .returned (.slice p' ((reg1 l slots).map Rv.id).length c') ∧ S w' ([Rw 3 1 p' ((reg1 l slots).map Rv.id).length c' (fl intL ((reg1 l slots).map Rv.id))] ++ [Old w no]) := by
  have H0 := S.old w
  have hnl := hr.lenL rvE
  have hfl : (l.filter qR).length ≤ 30 := by have := List.length_filter_le qR l; omega
  have hfw := List.length_filter_le qW l
  refine enter 49 Tryz.func8 rfl rfl rfl ?_
  refine g_weak [(0, .int .i64 slots), (1, .slice p n c)] ⟨rfl, rfl, trivial⟩ ?_
  refine g_seq ?_
  refine g_region ?_
  refine l_of (s_val (v := .slice none 0 0) (wt0 rfl) rfl rfl (x_assign rfl rfl) ?_)
  refine g_nil ?_
  refine g_then ?_
  refine g_seq ?_
  refine g_region ?_
  refine l_of (s_val (v := .slice none 0 0) (wt0 rfl) rfl rfl (x_assign rfl rfl) ?_)
  refine g_nil ?_
  refine g_then ?_
  refine g_seq ?_
  refine g_seq ?_
  refine g_region ?_
  refine l_of (s_val (v := .slice p n c) (wt0 rfl) rfl rfl (x_move rfl rfl) ?_)
  refine l_of (s_call (wt0 rfl) (x_call' rfl rfl cl16) (inter_r l p n c (by omega) _ (H0.exReads (k := 0) rfl hr (fun _ _ _ h => h))) ?_)
  rintro _ wq1 ⟨pi, ci, rfl, H2⟩
  replace H2 : S wq1 [Rw 30 10 pi ((l.filter qW).length) ci (fl rvL (l.filter qW)), Old w no] := H0.absorb (new := [Rw 30 10 pi ((l.filter qW).length) ci (fl rvL (l.filter qW))]) H2
  refine b_ret rfl rfl ?_
  refine l_of (s_val (v := .int .i64 (((l.filter qW).length : Int))) (wt0 rfl) rfl rfl (x_lenl rfl rfl Tryz.underlying22) ?_)
  refine l_of (s_val (v := .int .i64 0) (wt0 rfl) rfl rfl (x_move rfl rfl) ?_)
  refine g_nil ?_
  refine g_then ?_
  refine g_block ?_
  refine g_loop (ι := Nat × Option Addr × Nat × List Rv) (fun (i, pa, ca, A) => [(0, .int .i64 slots), (5, .slice pa A.length ca), (11, .slice pi ((l.filter qW).length) ci), (12, .int .i64 (((l.filter qW).length : Int))), (13, .int .i64 ((i : Int)))]) (fun (i, pa, ca, A) wx => (i ≤ (l.filter qW).length) ∧ (A = ((l.filter qW).take i).filter (fun x => !x.snb)) ∧ (A.length ≤ i) ∧ S wx [Rw 30 10 pa A.length ca (fl rvL A), Rw 30 10 pi ((l.filter qW).length) ci (fl rvL (l.filter qW)), Old w no]) (fun (i, pa, ca, A) => ((l.filter qW).length) - i) (0, none, 0, []) ⟨rfl, rfl, rfl, rfl, rfl, trivial⟩ ⟨Nat.zero_le _, (by rw [List.take_zero]; rfl), (Nat.le_refl 0), ((H2.takes [0, 1] (by decide)).nilFl 30 10 rvL)⟩ ?_
  rintro ⟨i, pa, ca, A⟩ wq3 ⟨hi, hA, hAl, H4⟩
  replace H4 : S wq3 [Rw 30 10 pa A.length ca (fl rvL A), Rw 30 10 pi ((l.filter qW).length) ci (fl rvL (l.filter qW)), Old w no] := H4
  refine g_weak [(0, .int .i64 slots), (5, .slice pa A.length ca), (11, .slice pi ((l.filter qW).length) ci), (12, .int .i64 (((l.filter qW).length : Int))), (13, .int .i64 ((i : Int)))] ⟨rfl, rfl, rfl, rfl, rfl, trivial⟩ ?_
  refine g_seq ?_
  refine g_region ?_
  refine l_of (s_val (v := .bool (decide (((i : Int) : Int) < ((l.filter qW).length : Int)))) (wt0 rfl) rfl rfl (x_bin rfl rfl rfl b_lss) ?_)
  refine g_nil ?_
  refine g_then ?_
  refine g_seq ?_
  by_cases hb5 : ((i : Int) : Int) < ((l.filter qW).length : Int)
  · skip
    refine g_cond_t rfl (decide_eq_true hb5) ?_
    refine g_skip ?_
    refine g_then ?_
    refine g_seq ?_
    refine g_block ?_
    refine g_seq ?_
    refine g_region ?_
    refine l_of (s_val (v := .pointer ((pi).map fun q => q.add (i * 10))) (wt0 rfl) rfl rfl (x_idxR i (H4.rwReads (k := 1) rfl) rfl rfl rfl Tryz.underlying22 sz30 (by omega)) ?_)
    have hlq := (H4.rwReads (k := 1) rfl).lenL rvE
    obtain ⟨x6, hx6⟩ := ex_at (l := (l.filter qW)) (j := i) (by omega)
    clear hlq
    refine l_of (s_val (v := .agg #[.int .i64 (x6.id), .bool x6.intr, .bool x6.chk, .int .i64 (x6.frm), .int .i64 (x6.to), .int .i64 (x6.lt), .int .i64 (x6.since), .bool x6.snb, .bool x6.now, .bool x6.seed]) (wt0 rfl) rfl rfl (x_loadRA (vs := rvL x6) i (H4.rwReads (k := 1) rfl) (by omega) rfl rfl Tryz.underlying30 rfl sz30 (by rfl) (rvE.flAt hx6)) ?_)
    refine l_of (s_alloc H4 (wt0 rfl) rfl rfl rfl ze30 ?_)
    intro g7 wq8 H9
    refine l_of (s_store H9 0 (wt0 rfl) rfl rfl rfl rfl rfl sz30 rfl rfl (cs' := #[.int .i64 (x6.id), .bool x6.intr, .bool x6.chk, .int .i64 (x6.frm), .int .i64 (x6.to), .int .i64 (x6.lt), .int .i64 (x6.since), .bool x6.snb, .bool x6.now, .bool x6.seed]) rfl ?_)
    intro wq10 H11
    refine g_nil ?_
    refine g_then ?_
    refine g_seq ?_
    refine g_region ?_
    refine l_of (s_val (v := .pointer (some ⟨g7, 7, none⟩)) (wt0 rfl) rfl rfl (x_fieldAddr rfl rfl fo30_7 rfl) ?_)
    refine l_of (s_val (v := .bool x6.snb) (wt0 rfl) rfl rfl (x_load1 H11 0 rfl rfl Tryz.underlying4 rfl rfl rfl) ?_)
    refine l_of (s_val (v := .bool (!(x6.snb))) (wt0 rfl) rfl rfl (x_not (b := x6.snb) rfl rfl) ?_)
    refine g_nil ?_
    refine g_then ?_
    rcases Bool.eq_false_or_eq_true (x6.snb) with hb12 | hb12
    · skip
      refine g_cond_f rfl (neg_of hb12) ?_
      refine g_skip ?_
      refine g_in ?_
      refine g_then ?_
      refine g_region ?_
      refine l_of (s_val (v := .int .i64 (((i + 1 : Nat) : Int))) (wt0 rfl) rfl rfl (x_bin rfl rfl rfl (b_add (by rw [w64 (by omega)]; omega))) ?_)
      refine l_of (s_val (v := .int .i64 (((i + 1 : Nat) : Int))) (wt0 rfl) rfl rfl (x_move rfl rfl) ?_)
      refine g_nil ?_
      refine g_then ?_
      refine g_round (i := (i, pa, ca, A)) ((i + 1), pa, ca, A) ?_ ?_ ?_
      · exact ⟨rfl, rfl, rfl, rfl, rfl, trivial⟩
      · exact ⟨by omega, (by rw [take_snocL hx6, List.filter_append, ← hA]; simp [hb12]), (by first | omega | (simp only [List.length_append, List.length_cons, List.length_nil]; omega)), (H11.takes [1, 2, 3] (by decide))⟩
      · (try dsimp only); omega
    · skip
      refine g_cond_t rfl (neg_of hb12) ?_
      refine g_region ?_
      refine l_of (s_val (v := .slice pa A.length ca) (wt0 rfl) rfl rfl (x_move rfl rfl) ?_)
      refine l_of (s_val (v := .agg #[.int .i64 (x6.id), .bool x6.intr, .bool x6.chk, .int .i64 (x6.frm), .int .i64 (x6.to), .int .i64 (x6.lt), .int .i64 (x6.since), .bool x6.snb, .bool x6.now, .bool x6.seed]) (wt0 rfl) rfl rfl (x_loadA H11 0 rfl rfl Tryz.underlying30 rfl sz30 rfl rfl rfl) ?_)
      refine l_of (s_buildSlice H11 (wt0 rfl) rfl rfl rfl (vs := [.agg #[.int .i64 (x6.id), .bool x6.intr, .bool x6.chk, .int .i64 (x6.frm), .int .i64 (x6.to), .int .i64 (x6.lt), .int .i64 (x6.since), .bool x6.snb, .bool x6.now, .bool x6.seed]]) rfl Tryz.underlying22 sz30 ze30 rfl rfl (cells := #[.int .i64 (x6.id), .bool x6.intr, .bool x6.chk, .int .i64 (x6.frm), .int .i64 (x6.to), .int .i64 (x6.lt), .int .i64 (x6.since), .bool x6.snb, .bool x6.now, .bool x6.seed]) (by kernel_rfl) ?_)
      intro g13 wq14 H15
      have hln20a := (H15.rwReads (k := 2) rfl).lenL rvE
      have hln20 : (A ++ [x6]).length = A.length + 1 := by simp only [List.length_append, List.length_cons, List.length_nil] <;> omega
      refine l_of (s_appBn (m := 1) (l := A) (l2 := [x6]) rvE H15 2 (j0 := 0) rfl rfl ⟨rfl, Nat.le_refl _⟩ (wt0 rfl) rfl rfl rfl rfl rfl rfl Tryz.underlying22 inf30 rfl (by decide) (by omega) ?_)
      intro p16 c17 wq18 H19
      replace H19 : S wq18 [Ob g13 (.cells #[.int .i64 (x6.id), .bool x6.intr, .bool x6.chk, .int .i64 (x6.frm), .int .i64 (x6.to), .int .i64 (x6.lt), .int .i64 (x6.since), .bool x6.snb, .bool x6.now, .bool x6.seed] 30 (0, 0)), Ob g7 (.cells #[.int .i64 (x6.id), .bool x6.intr, .bool x6.chk, .int .i64 (x6.frm), .int .i64 (x6.to), .int .i64 (x6.lt), .int .i64 (x6.since), .bool x6.snb, .bool x6.now, .bool x6.seed] 30 (0, 0)), Rw 30 10 p16 ((A ++ [x6]).length) c17 (fl rvL (A ++ [x6])), Rw 30 10 pi ((l.filter qW).length) ci (fl rvL (l.filter qW)), Old w no] := H19
      refine l_of (s_val (v := .slice p16 ((A ++ [x6]).length) c17) (wt0 rfl) rfl rfl (x_assign rfl rfl) ?_)
      refine g_nil ?_
      refine g_in ?_
      refine g_then ?_
      refine g_region ?_
      refine l_of (s_val (v := .int .i64 (((i + 1 : Nat) : Int))) (wt0 rfl) rfl rfl (x_bin rfl rfl rfl (b_add (by rw [w64 (by omega)]; omega))) ?_)
      refine l_of (s_val (v := .int .i64 (((i + 1 : Nat) : Int))) (wt0 rfl) rfl rfl (x_move rfl rfl) ?_)
      refine g_nil ?_
      refine g_then ?_
      refine g_round (i := (i, pa, ca, A)) ((i + 1), p16, c17, (A ++ [x6])) ?_ ?_ ?_
      · exact ⟨rfl, rfl, rfl, rfl, rfl, trivial⟩
      · exact ⟨by omega, (by rw [take_snocL hx6, List.filter_append, ← hA]; simp [hb12]), (by first | omega | (simp only [List.length_append, List.length_cons, List.length_nil]; omega)), (H19.takes [2, 3, 4] (by decide))⟩
      · (try dsimp only); omega
  · skip
    refine g_cond_f rfl (decide_eq_false hb5) ?_
    refine g_exit ?_
    refine g_then_exit ?_
    refine g_then_exit ?_
    refine g_in_hit ?_
    refine g_then ?_
    refine g_seq ?_
    refine g_region ?_
    refine l_of (s_val (v := .slice none 0 0) (wt0 rfl) rfl rfl (x_assign rfl rfl) ?_)
    refine g_nil ?_
    refine g_then ?_
    refine g_seq ?_
    refine g_block ?_
    refine g_loop (ι := Option Addr × Nat × List Rv × Option Addr × Nat × List Int × List Rv) (fun (pb, cb, B9, po, co, O, o9) => [(0, .int .i64 slots), (5, .slice pb B9.length cb), (8, .slice po O.length co)]) (fun (pb, cb, B9, po, co, O, o9) wx => (Picks c1 (l.filter qR) o9 B9) ∧ (O = o9.map Rv.id) ∧ (o9.length ≤ (slots - 1).toNat) ∧ S wx [Rw 30 10 pb B9.length cb (fl rvL B9), Rw 3 1 po O.length co (fl intL O), Old w no]) (fun (pb, cb, B9, po, co, O, o9) => B9.length) (pa, ca, A, none, 0, [], []) ⟨rfl, rfl, rfl, trivial⟩ ⟨(by rw [hA, List.take_of_length_le (by omega), filt2]; exact Picks.nil), rfl, (Nat.zero_le _), (((H4.takes [0, 2] (by decide)).nilFl 3 1 intL).takes [1, 0, 2] (by decide))⟩ ?_
    rintro ⟨pb, cb, B9, po, co, O, o9⟩ wq21 ⟨hP, hO, hOs, H22⟩
    replace H22 : S wq21 [Rw 30 10 pb B9.length cb (fl rvL B9), Rw 3 1 po O.length co (fl intL O), Old w no] := H22
    refine g_weak [(0, .int .i64 slots), (5, .slice pb B9.length cb), (8, .slice po O.length co)] ⟨rfl, rfl, rfl, trivial⟩ ?_
    refine g_seq ?_
    refine g_seq ?_
    refine g_region ?_
    refine l_of (s_val (v := .slice po O.length co) (wt0 rfl) rfl rfl (x_move rfl rfl) ?_)
    refine l_of (s_val (v := .int .i64 ((O.length : Int))) (wt0 rfl) rfl rfl (x_lenl rfl rfl Tryz.underlying24) ?_)
    refine l_of (s_val (v := .int .i64 slots) (wt0 rfl) rfl rfl (x_move rfl rfl) ?_)
    refine l_of (s_val (v := .int .i64 (slots - 1)) (wt0 rfl) rfl rfl (x_bin rfl rfl rfl (b_sub (w64 (by omega)))) ?_)
    refine l_of (s_val (v := .bool (decide (((O.length : Int) : Int) < slots - 1))) (wt0 rfl) rfl rfl (x_bin rfl rfl rfl b_lss) ?_)
    refine l_of (s_val (v := .bool (decide (((O.length : Int) : Int) < slots - 1))) (wt0 rfl) rfl rfl (x_move rfl rfl) ?_)
    by_cases hb23 : ((O.length : Int) : Int) < slots - 1
    · skip
      refine l_of (s_val (v := .slice pb B9.length cb) (wt1 rfl rfl rfl rfl (decide_eq_true hb23)) rfl rfl (x_move rfl rfl) ?_)
      refine l_of (s_val (v := .int .i64 ((B9.length : Int))) (wt1 rfl rfl rfl rfl (decide_eq_true hb23)) rfl rfl (x_lenl rfl rfl Tryz.underlying22) ?_)
      refine l_of (s_val (v := .bool (decide ((0 : Int) < (B9.length : Int)))) (wt1 rfl rfl rfl rfl (decide_eq_true hb23)) rfl rfl (x_bin rfl rfl rfl b_gtr) ?_)
      refine l_of (s_val (v := .bool (decide ((0 : Int) < (B9.length : Int)))) (wt0 rfl) rfl rfl (x_pick_t rfl rfl (decide_eq_true hb23) rfl) ?_)
      refine g_nil ?_
      refine g_then ?_
      by_cases hb24 : (0 : Int) < (B9.length : Int)
      · skip
        refine g_cond_t rfl (decide_eq_true hb24) ?_
        refine g_skip ?_
        refine g_then ?_
        refine g_block ?_
        refine g_seq ?_
        refine g_region ?_
        refine l_of (s_val (v := .slice pb B9.length cb) (wt0 rfl) rfl rfl (x_move rfl rfl) ?_)
        have hDB : ∀ x ∈ B9, DV x := fun x hx => validR_D (hval x (List.mem_filter.1 (hP.sub.subset hx)).1)
        have hBl : B9.length ≤ 30 := Nat.le_trans hP.sub.length_le hfl
        refine l_of (s_call (wt0 rfl) (x_call' rfl rfl cl20) (best1_r B9 pb B9.length cb (by omega) (by omega) hDB _ (H22.rwReads (k := 0) rfl)) ?_)
        rintro _ wq25 ⟨j9, x9, rfl, hB9, H26⟩
        replace H26 : S wq25 [Rw 30 10 pb B9.length cb (fl rvL B9), Rw 3 1 po O.length co (fl intL O), Old w no] := H22.absorb (new := []) H26
        have hjl9 := hB9.1
        refine b_ret rfl rfl ?_
        refine l_of (s_val (v := .int .i64 ((j9 : Int))) (wt0 rfl) rfl rfl (x_assign rfl rfl) ?_)
        refine g_nil ?_
        refine g_then ?_
        refine g_weak [(0, .int .i64 slots), (5, .slice pb B9.length cb), (8, .slice po O.length co), (9, .int .i64 ((j9 : Int)))] ⟨rfl, rfl, rfl, rfl, trivial⟩ ?_
        refine g_seq ?_
        refine g_region ?_
        refine l_of (s_val (v := .slice po O.length co) (wt0 rfl) rfl rfl (x_move rfl rfl) ?_)
        refine l_of (s_val (v := .slice pb B9.length cb) (wt0 rfl) rfl rfl (x_move rfl rfl) ?_)
        refine l_of (s_val (v := .int .i64 ((j9 : Int))) (wt0 rfl) rfl rfl (x_move rfl rfl) ?_)
        refine l_of (s_val (v := .pointer ((pb).map fun q => q.add (j9 * 10))) (wt0 rfl) rfl rfl (x_idxR j9 (H26.rwReads (k := 0) rfl) rfl rfl rfl Tryz.underlying22 sz30 (by omega)) ?_)
        refine l_of (s_val (v := .pointer ((pb).map fun q => q.add (j9 * 10 + 0))) (wt0 rfl) rfl rfl (ex_cast (x_fieldAddrG (m := j9 * 10) ((H26.rwReads (k := 0) rfl).some (by omega)) rfl rfl fo30_0) rfl) ?_)
        refine l_of (s_val (v := .int .i64 (x9.id)) (wt0 rfl) rfl rfl (x_loadF1 (i := 0) (j := j9) rvE (H26.rwReads (k := 0) rfl) hB9.2.1 rfl rfl Tryz.underlying3 rfl rfl) ?_)
        refine l_of (s_buildSlice H26 (wt0 rfl) rfl rfl rfl (vs := [.int .i64 (x9.id)]) rfl Tryz.underlying24 sz3 ze3 rfl rfl (cells := #[.int .i64 (x9.id)]) (by kernel_rfl) ?_)
        intro g27 wq28 H29
        have hln34a := (H29.rwReads (k := 2) rfl).lenL intE
        have hln34 : (O ++ [x9.id]).length = O.length + 1 := by simp only [List.length_append, List.length_cons, List.length_nil] <;> omega
        refine l_of (s_appBn (m := 1) (l := O) (l2 := [x9.id]) intE H29 2 (j0 := 0) rfl rfl ⟨rfl, Nat.le_refl _⟩ (wt0 rfl) rfl rfl rfl rfl rfl rfl Tryz.underlying24 inf3 rfl (by decide) (by omega) ?_)
        intro p30 c31 wq32 H33
        replace H33 : S wq32 [Ob g27 (.cells #[.int .i64 (x9.id)] 3 (0, 0)), Rw 30 10 pb B9.length cb (fl rvL B9), Rw 3 1 p30 ((O ++ [x9.id]).length) c31 (fl intL (O ++ [x9.id])), Old w no] := H33
        refine l_of (s_val (v := .slice p30 ((O ++ [x9.id]).length) c31) (wt0 rfl) rfl rfl (x_assign rfl rfl) ?_)
        refine g_nil ?_
        refine g_then ?_
        refine g_region ?_
        refine l_of (s_val (v := .slice pb B9.length cb) (wt0 rfl) rfl rfl (x_move rfl rfl) ?_)
        refine l_of (s_val (v := .int .i64 ((j9 : Int))) (wt0 rfl) rfl rfl (x_move rfl rfl) ?_)
        refine l_of (s_call (wt0 rfl) (x_call' rfl rfl cl21) (without_r B9 pb B9.length cb (by omega) j9 (by omega) _ (H33.rwReads (k := 1) rfl)) ?_)
        rintro _ wq37 ⟨pw35, cw36, rfl, H38⟩
        replace H38 : S wq37 [Rw 30 10 pw35 ((B9.eraseIdx j9).length) cw36 (fl rvL (B9.eraseIdx j9)), Ob g27 (.cells #[.int .i64 (x9.id)] 3 (0, 0)), Rw 30 10 pb B9.length cb (fl rvL B9), Rw 3 1 p30 ((O ++ [x9.id]).length) c31 (fl intL (O ++ [x9.id])), Old w no] := H33.absorb (new := [Rw 30 10 pw35 ((B9.eraseIdx j9).length) cw36 (fl rvL (B9.eraseIdx j9))]) H38
        refine b_ret rfl rfl ?_
        refine l_of (s_val (v := .slice pw35 ((B9.eraseIdx j9).length) cw36) (wt0 rfl) rfl rfl (x_assign rfl rfl) ?_)
        refine g_nil ?_
        refine g_in ?_
        refine g_then ?_
        refine g_round (i := (pb, cb, B9, po, co, O, o9)) (pw35, cw36, (B9.eraseIdx j9), p30, c31, (O ++ [x9.id]), (o9 ++ [x9])) ?_ ?_ ?_
        · exact ⟨rfl, rfl, rfl, trivial⟩
        · exact ⟨(Picks.step hP hB9), (by rw [hO, List.map_append]; rfl), (by have hol : O.length = o9.length := (by rw [hO, List.length_map]); rw [List.length_append, List.length_singleton]; omega), (H38.takes [0, 3, 4] (by decide))⟩
        · (try dsimp only); rw [List.length_eraseIdx_of_lt hB9.1]; have := hB9.1; omega
      · skip
        refine g_cond_f rfl (decide_eq_false hb24) ?_
        refine g_exit ?_
        refine g_then_exit ?_
        refine g_then_exit ?_
        refine g_in_hit ?_
        refine g_then ?_
        refine g_weak [(8, .slice po O.length co)] ⟨rfl, trivial⟩ ?_
        refine g_seq ?_
        refine g_region ?_
        refine l_of (s_val (v := .slice po O.length co) (wt0 rfl) rfl rfl (x_move rfl rfl) ?_)
        refine l_of (s_val (v := .slice po O.length co) (wt0 rfl) rfl rfl (x_assign rfl rfl) ?_)
        refine g_nil ?_
        refine g_then ?_
        refine g_ret ?_
        refine fin_ret [.tmp 4] [.slice po O.length co] rfl ⟨rfl, trivial⟩ ?_
        have hol : O.length = o9.length := by rw [hO, List.length_map]
        have hsr := (hP.srt (d := Rv.zero) c1_wk (by omega)).2
        have hrg : reg1 l slots = o9 := reg_is hsr hOs (reg_end (by omega))
        rw [hrg, ← hO]
        exact ⟨_, _, rfl, H22.takes [1, 2] (by decide)⟩
    · skip
      refine l_of (s_not (wn1 rfl rfl rfl rfl (decide_eq_false hb23)) rfl rfl ?_)
      refine l_of (s_not (wn1 rfl rfl rfl rfl (decide_eq_false hb23)) rfl rfl ?_)
      refine l_of (s_not (wn1 rfl rfl rfl rfl (decide_eq_false hb23)) rfl rfl ?_)
      refine l_of (s_val (v := .bool false) (wt0 rfl) rfl rfl (x_pick_f rfl rfl (decide_eq_false hb23) rfl) ?_)
      refine g_nil ?_
      refine g_then ?_
      refine g_cond_f rfl rfl ?_
      refine g_exit ?_
      refine g_then_exit ?_
      refine g_then_exit ?_
      refine g_in_hit ?_
      refine g_then ?_
      refine g_weak [(8, .slice po O.length co)] ⟨rfl, trivial⟩ ?_
      refine g_seq ?_
      refine g_region ?_
      refine l_of (s_val (v := .slice po O.length co) (wt0 rfl) rfl rfl (x_move rfl rfl) ?_)
      refine l_of (s_val (v := .slice po O.length co) (wt0 rfl) rfl rfl (x_assign rfl rfl) ?_)
      refine g_nil ?_
      refine g_then ?_
      refine g_ret ?_
      refine fin_ret [.tmp 4] [.slice po O.length co] rfl ⟨rfl, trivial⟩ ?_
      have hol : O.length = o9.length := by rw [hO, List.length_map]
      have hsr := (hP.srt (d := Rv.zero) c1_wk (by omega)).2
      have hrg : reg1 l slots = o9 := reg_is hsr hOs (reg_end (by omega))
      rw [hrg, ← hO]
      exact ⟨_, _, rfl, H22.takes [1, 2] (by decide)⟩
end Go.Proofs.YthfglkkjkpdkpaaGreatDoor
