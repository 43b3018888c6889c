import Derived.Test.YthfglkkjkpdkpaaGreatDoorLp
import Derived.Test.YthfglkkjkpdkpaaGreatDoorLk
import Derived.Test.YthfglkkjkpdkpaaGreatDoorFk
set_option linter.unusedSimpArgs false
set_option linter.unusedVariables false
namespace Go.Proofs.YthfglkkjkpdkpaaGreatDoor
open Go.RowKit

theorem cl69 : callable Tryz.prog 69 = true := by kernel_rfl
theorem cl70 : callable Tryz.prog 70 = true := by kernel_rfl
def kpB (x : Rv) : Bool := x.now && decide (x.to < 16384)
def DV3 (x : Rv) : Prop := DV x ∧ x.intr = true
theorem kp_st {x : Rv} (h : x.intr = true) : kpB x = stB x := by unfold kpB stB; rw [h]; simp
theorem sgN_st {x y : Rv} (hx : x.intr = true) (hy : y.intr = true) : sgN (kpB x) (kpB y) = stN x - stN y := by
  rw [kp_st hx, kp_st hy]
  unfold sgN stN
  cases stB x <;> cases stB y <;> rfl
theorem st_cases (x : Rv) : (stB x = true ∧ stN x = 0 ∧ lastN x = 0) ∨ (stB x = false ∧ stN x = 1 ∧ lastN x = x.lt) := by
  unfold stN lastN
  cases stB x with
  | true => exact .inl ⟨rfl, rfl, rfl⟩
  | false => exact .inr ⟨rfl, rfl, rfl⟩
theorem c2_lex : c2 = lexC [fun x => -x.to, Rv.since, Rv.id] := by
  funext x y
  unfold c2
  simp only [lexC]
  have e : -x.to - -y.to = y.to - x.to := by omega
  rw [e]
  repeat' split
  all_goals omega
theorem c2_wk : Wk c2 := by rw [c2_lex]; exact lexC_wk _
theorem c4_lex : c4 = lexC [fun x => -hfN x, Rv.id] := by
  funext x y
  unfold c4
  simp only [lexC]
  have e : -hfN x - -hfN y = hfN y - hfN x := by omega
  rw [e]
  repeat' split
  all_goals omega
theorem c4_wk : Wk c4 := by rw [c4_lex]; exact lexC_wk _
theorem c3_lex2 : c3 = lexC [stN, lastN, Rv.id] := by
  funext x y
  unfold c3
  simp only [lexC]
  repeat' split
  all_goals omega
theorem c3_wk2 : Wk c3 := by rw [c3_lex2]; exact lexC_wk _
theorem cO_wk (round : Int) (seed : ByteArray) : Wk (cO round seed) := ⟨fun x y => cmpSt_wk.anti _ _, fun x y z => cmpSt_wk.trans _ _ _⟩
set_option maxRecDepth 20000 in
set_option maxHeartbeats 4000000 in
set_option maxRecDepth 20000 in
set_option maxHeartbeats 4000000 in
theorem less2_r (x y : Rv) (hx : DV x) (hy : DV y)  (w : World) : Calls Tryz.prog 33 #[.int .i64 2, .agg #[.int .i64 (x.id), .bool x.intr, .bool x.chk, .int .i64 (x.frm), .int .i64 (x.to), .int .i64 (x.lt), .int .i64 (x.since), .bool x.snb, .bool x.now, .bool x.seed], .agg #[.int .i64 (y.id), .bool y.intr, .bool y.chk, .int .i64 (y.frm), .int .i64 (y.to), .int .i64 (y.lt), .int .i64 (y.since), .bool y.snb, .bool y.now, .bool y.seed]] w fun e w' => e = .returned (.int .i64 (c2 x y)) ∧ S w' [Old w no] := by
  have H0 := S.old w
  unfold DV at hx hy
  refine enter 93 Tryz.func33 rfl rfl rfl ?_
  refine g_weak [(0, .int .i64 2), (1, .agg #[.int .i64 (x.id), .bool x.intr, .bool x.chk, .int .i64 (x.frm), .int .i64 (x.to), .int .i64 (x.lt), .int .i64 (x.since), .bool x.snb, .bool x.now, .bool x.seed]), (2, .agg #[.int .i64 (y.id), .bool y.intr, .bool y.chk, .int .i64 (y.frm), .int .i64 (y.to), .int .i64 (y.lt), .int .i64 (y.since), .bool y.snb, .bool y.now, .bool y.seed])] ⟨rfl, rfl, rfl, trivial⟩ ?_
  refine g_seq ?_
  refine g_region ?_
  refine l_of (s_box H0 (wt0 rfl) rfl rfl rfl rfl ?_)
  intro g1 wq2 H3
  refine l_of (s_box H3 (wt0 rfl) rfl rfl rfl rfl ?_)
  intro g4 wq5 H6
  refine l_of (s_val (v := .int .i64 0) (wt0 rfl) rfl rfl (x_assign rfl rfl) ?_)
  refine g_nil ?_
  refine g_then ?_
  refine g_seq ?_
  refine g_region ?_
  refine l_of (s_val (v := .slice none 0 0) (wt0 rfl) rfl rfl (x_assign rfl rfl) ?_)
  refine g_nil ?_
  refine g_then ?_
  refine g_seq ?_
  refine g_seq ?_
  refine g_region ?_
  refine l_of (s_val (v := .int .i64 2) (wt0 rfl) rfl rfl (x_move rfl rfl) ?_)
  refine g_nil ?_
  refine g_then ?_
  refine g_block ?_
  refine g_seq ?_
  refine g_region ?_
  refine l_of (s_val (v := .bool (decide ((2 : Int) = 1))) (wt0 rfl) rfl rfl (x_bin rfl rfl rfl b_eql) ?_)
  refine l_of (s_val (v := .bool (decide ((2 : Int) = 1))) (wt0 rfl) rfl rfl (x_assign rfl rfl) ?_)
  refine g_nil ?_
  refine g_then ?_
  refine g_cond_f rfl (by decide) ?_
  refine g_seq ?_
  refine g_region ?_
  refine l_of (s_val (v := .bool (decide ((2 : Int) = 2))) (wt0 rfl) rfl rfl (x_bin rfl rfl rfl b_eql) ?_)
  refine l_of (s_val (v := .bool (decide ((2 : Int) = 2))) (wt0 rfl) rfl rfl (x_assign rfl rfl) ?_)
  refine g_nil ?_
  refine g_then ?_
  refine g_cond_t rfl (decide_eq_true rfl) ?_
  refine g_region ?_
  refine l_of (s_val (v := .pointer (some ⟨g4, 4, none⟩)) (wt0 rfl) rfl rfl (x_fieldAddr rfl rfl fo30_4 rfl) ?_)
  refine l_of (s_val (v := .int .i64 (y.to)) (wt0 rfl) rfl rfl (x_load1 H6 0 rfl rfl Tryz.underlying3 rfl rfl rfl) ?_)
  refine l_of (s_val (v := .pointer (some ⟨g1, 4, none⟩)) (wt0 rfl) rfl rfl (x_fieldAddr rfl rfl fo30_4 rfl) ?_)
  refine l_of (s_val (v := .int .i64 (x.to)) (wt0 rfl) rfl rfl (x_load1 H6 1 rfl rfl Tryz.underlying3 rfl rfl rfl) ?_)
  refine l_of (s_val (v := .int .i64 (y.to - x.to)) (wt0 rfl) rfl rfl (x_bin rfl rfl rfl (b_sub (w64 (by omega)))) ?_)
  refine l_of (s_val (v := .pointer (some ⟨g1, 6, none⟩)) (wt0 rfl) rfl rfl (x_fieldAddr rfl rfl fo30_6 rfl) ?_)
  refine l_of (s_val (v := .int .i64 (x.since)) (wt0 rfl) rfl rfl (x_load1 H6 1 rfl rfl Tryz.underlying3 rfl rfl rfl) ?_)
  refine l_of (s_val (v := .pointer (some ⟨g4, 6, none⟩)) (wt0 rfl) rfl rfl (x_fieldAddr rfl rfl fo30_6 rfl) ?_)
  refine l_of (s_val (v := .int .i64 (y.since)) (wt0 rfl) rfl rfl (x_load1 H6 0 rfl rfl Tryz.underlying3 rfl rfl rfl) ?_)
  refine l_of (s_val (v := .int .i64 (x.since - y.since)) (wt0 rfl) rfl rfl (x_bin rfl rfl rfl (b_sub (w64 (by omega)))) ?_)
  refine l_of (s_buildSlice H6 (wt0 rfl) rfl rfl rfl (vs := [.int .i64 (y.to - x.to), .int .i64 (x.since - y.since)]) rfl Tryz.underlying24 sz3 ze3 rfl rfl (cells := #[.int .i64 (y.to - x.to), .int .i64 (x.since - y.since)]) (by kernel_rfl) ?_)
  intro g7 wq8 H9
  refine l_of (s_val (v := .slice (some ⟨g7, 0, none⟩) (2) (2)) (wt0 rfl) rfl rfl (x_assign rfl rfl) ?_)
  refine g_nil ?_
  refine g_in ?_
  refine g_then ?_
  refine g_weak [(4, .pointer (some ⟨g1, 0, none⟩)), (5, .pointer (some ⟨g4, 0, none⟩)), (7, .slice (some ⟨g7, 0, none⟩) (2) (2))] ⟨rfl, rfl, rfl, trivial⟩ ?_
  refine g_seq ?_
  refine g_seq ?_
  refine g_region ?_
  refine l_of (s_val (v := .slice (some ⟨g7, 0, none⟩) (2) (2)) (wt0 rfl) rfl rfl (x_move rfl rfl) ?_)
  refine l_of (s_val (v := .pointer (some ⟨g1, 0, none⟩)) (wt0 rfl) rfl rfl (x_fieldAddr rfl rfl fo30_0 rfl) ?_)
  refine l_of (s_val (v := .int .i64 (x.id)) (wt0 rfl) rfl rfl (x_load1 H9 2 rfl rfl Tryz.underlying3 rfl rfl rfl) ?_)
  refine l_of (s_val (v := .pointer (some ⟨g4, 0, none⟩)) (wt0 rfl) rfl rfl (x_fieldAddr rfl rfl fo30_0 rfl) ?_)
  refine l_of (s_val (v := .int .i64 (y.id)) (wt0 rfl) rfl rfl (x_load1 H9 1 rfl rfl Tryz.underlying3 rfl rfl rfl) ?_)
  refine l_of (s_val (v := .int .i64 (x.id - y.id)) (wt0 rfl) rfl rfl (x_bin rfl rfl rfl (b_sub (w64 (by omega)))) ?_)
  refine l_of (s_buildSlice H9 (wt0 rfl) rfl rfl rfl (vs := [.int .i64 (x.id - y.id)]) rfl Tryz.underlying24 sz3 ze3 rfl rfl (cells := #[.int .i64 (x.id - y.id)]) (by kernel_rfl) ?_)
  intro g10 wq11 H12
  have H13 : S wq11 [Ob g10 (.cells #[.int .i64 (x.id - y.id)] 3 (0, 0)), Rw 3 1 (some ⟨g7, 0, none⟩) 2 2 (fl intL ([y.to - x.to, x.since - y.since])), Ob g4 (.cells #[.int .i64 (y.id), .bool y.intr, .bool y.chk, .int .i64 (y.frm), .int .i64 (y.to), .int .i64 (y.lt), .int .i64 (y.since), .bool y.snb, .bool y.now, .bool y.seed] 30 (0, 0)), Ob g1 (.cells #[.int .i64 (x.id), .bool x.intr, .bool x.chk, .int .i64 (x.frm), .int .i64 (x.to), .int .i64 (x.lt), .int .i64 (x.since), .bool x.snb, .bool x.now, .bool x.seed] 30 (0, 0)), Old w no] := S.obFl intE H12 (k := 1) rfl rfl (by decide) rfl
  have hln18a := (H13.rwReads (k := 1) rfl).lenL intE
  have hln18 : ([y.to - x.to, x.since - y.since] ++ [x.id - y.id]).length = 2 + 1 := by simp only [List.length_append, List.length_cons, List.length_nil] <;> omega
  refine l_of (s_appBn (m := 1) (l := [y.to - x.to, x.since - y.since]) (l2 := [x.id - y.id]) intE H13 1 (j0 := 0) rfl rfl ⟨rfl, Nat.le_refl _⟩ (wt0 rfl) rfl rfl rfl rfl rfl rfl Tryz.underlying24 inf3 rfl (by decide) (by omega) ?_)
  intro p14 c15 wq16 H17
  replace H17 : S wq16 [Ob g10 (.cells #[.int .i64 (x.id - y.id)] 3 (0, 0)), Rw 3 1 p14 (([y.to - x.to, x.since - y.since] ++ [x.id - y.id]).length) c15 (fl intL ([y.to - x.to, x.since - y.since] ++ [x.id - y.id])), Ob g4 (.cells #[.int .i64 (y.id), .bool y.intr, .bool y.chk, .int .i64 (y.frm), .int .i64 (y.to), .int .i64 (y.lt), .int .i64 (y.since), .bool y.snb, .bool y.now, .bool y.seed] 30 (0, 0)), Ob g1 (.cells #[.int .i64 (x.id), .bool x.intr, .bool x.chk, .int .i64 (x.frm), .int .i64 (x.to), .int .i64 (x.lt), .int .i64 (x.since), .bool x.snb, .bool x.now, .bool x.seed] 30 (0, 0)), Old w no] := H17
  refine l_of (s_val (v := .int .i64 3) (wt0 rfl) rfl rfl (x_lenl rfl rfl Tryz.underlying24) ?_)
  refine l_of (s_val (v := .int .i64 0) (wt0 rfl) rfl rfl (x_move rfl rfl) ?_)
  refine g_nil ?_
  refine g_then ?_
  refine g_block ?_
  refine g_rounds 4 ?_
  refine g_roundU ?_
  refine g_seq ?_
  refine g_region ?_
  refine l_of (s_val (v := .bool (decide ((0 : Int) < 3))) (wt0 rfl) rfl rfl (x_bin rfl rfl rfl b_lss) ?_)
  refine g_nil ?_
  refine g_then ?_
  refine g_seq ?_
  refine g_cond_t rfl (by decide) ?_
  refine g_skip ?_
  refine g_then ?_
  refine g_seq ?_
  refine g_block ?_
  refine g_seq ?_
  refine g_region ?_
  refine l_of (s_val (v := .pointer ((p14).map fun q => q.add (0 * 1))) (wt0 rfl) rfl rfl (x_idxR 0 (H17.rwReads (k := 1) rfl) rfl rfl rfl Tryz.underlying24 sz3 (by omega)) ?_)
  refine l_of (s_val (v := .int .i64 ((y.to - x.to))) (wt0 rfl) rfl rfl (x_loadR1 0 (H17.rwReads (k := 1) rfl) (by omega) rfl rfl Tryz.underlying3 rfl (intE.flAt1 rfl rfl)) ?_)
  refine l_of (s_val (v := .int .i64 ((y.to - x.to))) (wt0 rfl) rfl rfl (x_assign rfl rfl) ?_)
  refine g_nil ?_
  refine g_then ?_
  refine g_weak [(9, .int .i64 ((y.to - x.to))), (83, .slice p14 (([y.to - x.to, x.since - y.since] ++ [x.id - y.id]).length) c15), (84, .int .i64 3), (85, .int .i64 0)] ⟨rfl, rfl, rfl, rfl, trivial⟩ ?_
  refine g_seq ?_
  refine g_region ?_
  refine l_of (s_val (v := .int .i64 ((y.to - x.to))) (wt0 rfl) rfl rfl (x_move rfl rfl) ?_)
  refine l_of (s_val (v := .bool (!decide (((y.to - x.to) : Int) = 0))) (wt0 rfl) rfl rfl (x_bin rfl rfl rfl b_neq) ?_)
  refine g_nil ?_
  refine g_then ?_
  by_cases hb19 : ((y.to - x.to) : Int) = 0
  · skip
    refine g_cond_f rfl (nf hb19) ?_
    refine g_skip ?_
    refine g_in ?_
    refine g_then ?_
    refine g_region ?_
    refine l_of (s_val (v := .int .i64 1) (wt0 rfl) rfl rfl (x_bin rfl rfl rfl (b_add (r := 1) (by decide))) ?_)
    refine l_of (s_val (v := .int .i64 1) (wt0 rfl) rfl rfl (x_move rfl rfl) ?_)
    refine g_nil ?_
    refine g_then ?_
    refine g_roundU ?_
    refine g_seq ?_
    refine g_region ?_
    refine l_of (s_val (v := .bool (decide ((1 : Int) < 3))) (wt0 rfl) rfl rfl (x_bin rfl rfl rfl b_lss) ?_)
    refine g_nil ?_
    refine g_then ?_
    refine g_seq ?_
    refine g_cond_t rfl (by decide) ?_
    refine g_skip ?_
    refine g_then ?_
    refine g_seq ?_
    refine g_block ?_
    refine g_seq ?_
    refine g_region ?_
    refine l_of (s_val (v := .pointer ((p14).map fun q => q.add (1 * 1))) (wt0 rfl) rfl rfl (x_idxR 1 (H17.rwReads (k := 1) rfl) rfl rfl rfl Tryz.underlying24 sz3 (by omega)) ?_)
    refine l_of (s_val (v := .int .i64 ((x.since - y.since))) (wt0 rfl) rfl rfl (x_loadR1 1 (H17.rwReads (k := 1) rfl) (by omega) rfl rfl Tryz.underlying3 rfl (intE.flAt1 rfl rfl)) ?_)
    refine l_of (s_val (v := .int .i64 ((x.since - y.since))) (wt0 rfl) rfl rfl (x_assign rfl rfl) ?_)
    refine g_nil ?_
    refine g_then ?_
    refine g_seq ?_
    refine g_region ?_
    refine l_of (s_val (v := .int .i64 ((x.since - y.since))) (wt0 rfl) rfl rfl (x_move rfl rfl) ?_)
    refine l_of (s_val (v := .bool (!decide (((x.since - y.since) : Int) = 0))) (wt0 rfl) rfl rfl (x_bin rfl rfl rfl b_neq) ?_)
    refine g_nil ?_
    refine g_then ?_
    by_cases hb20 : ((x.since - y.since) : Int) = 0
    · skip
      refine g_cond_f rfl (nf hb20) ?_
      refine g_skip ?_
      refine g_in ?_
      refine g_then ?_
      refine g_region ?_
      refine l_of (s_val (v := .int .i64 2) (wt0 rfl) rfl rfl (x_bin rfl rfl rfl (b_add (r := 2) (by decide))) ?_)
      refine l_of (s_val (v := .int .i64 2) (wt0 rfl) rfl rfl (x_move rfl rfl) ?_)
      refine g_nil ?_
      refine g_then ?_
      refine g_roundU ?_
      refine g_seq ?_
      refine g_region ?_
      refine l_of (s_val (v := .bool (decide ((2 : Int) < 3))) (wt0 rfl) rfl rfl (x_bin rfl rfl rfl b_lss) ?_)
      refine g_nil ?_
      refine g_then ?_
      refine g_seq ?_
      refine g_cond_t rfl (by decide) ?_
      refine g_skip ?_
      refine g_then ?_
      refine g_seq ?_
      refine g_block ?_
      refine g_seq ?_
      refine g_region ?_
      refine l_of (s_val (v := .pointer ((p14).map fun q => q.add (2 * 1))) (wt0 rfl) rfl rfl (x_idxR 2 (H17.rwReads (k := 1) rfl) rfl rfl rfl Tryz.underlying24 sz3 (by omega)) ?_)
      refine l_of (s_val (v := .int .i64 ((x.id - y.id))) (wt0 rfl) rfl rfl (x_loadR1 2 (H17.rwReads (k := 1) rfl) (by omega) rfl rfl Tryz.underlying3 rfl (intE.flAt1 rfl rfl)) ?_)
      refine l_of (s_val (v := .int .i64 ((x.id - y.id))) (wt0 rfl) rfl rfl (x_assign rfl rfl) ?_)
      refine g_nil ?_
      refine g_then ?_
      refine g_seq ?_
      refine g_region ?_
      refine l_of (s_val (v := .int .i64 ((x.id - y.id))) (wt0 rfl) rfl rfl (x_move rfl rfl) ?_)
      refine l_of (s_val (v := .bool (!decide (((x.id - y.id) : Int) = 0))) (wt0 rfl) rfl rfl (x_bin rfl rfl rfl b_neq) ?_)
      refine g_nil ?_
      refine g_then ?_
      by_cases hb21 : ((x.id - y.id) : Int) = 0
      · skip
        refine g_cond_f rfl (nf hb21) ?_
        refine g_skip ?_
        refine g_in ?_
        refine g_then ?_
        refine g_region ?_
        refine l_of (s_val (v := .int .i64 3) (wt0 rfl) rfl rfl (x_bin rfl rfl rfl (b_add (r := 3) (by decide))) ?_)
        refine l_of (s_val (v := .int .i64 3) (wt0 rfl) rfl rfl (x_move rfl rfl) ?_)
        refine g_nil ?_
        refine g_then ?_
        refine g_roundU ?_
        refine g_seq ?_
        refine g_region ?_
        refine l_of (s_val (v := .bool (decide ((3 : Int) < 3))) (wt0 rfl) rfl rfl (x_bin rfl rfl rfl b_lss) ?_)
        refine g_nil ?_
        refine g_then ?_
        refine g_seq ?_
        refine g_cond_f rfl (by decide) ?_
        refine g_exit ?_
        refine g_then_exit ?_
        refine g_then_exit ?_
        refine g_in_hit ?_
        refine g_then ?_
        refine g_seq ?_
        refine g_region ?_
        refine l_of (s_val (v := .int .i64 0) (wt0 rfl) rfl rfl (x_assign rfl rfl) ?_)
        refine g_nil ?_
        refine g_then ?_
        refine g_ret ?_
        refine fin_ret [.tmp 6] [.int .i64 0] rfl ⟨rfl, trivial⟩ ?_
        have hv : c2 x y = 0 := by
          unfold c2
          repeat' split
          all_goals omega
        exact ⟨by rw [hv]; rfl, H17.mask [false, false, false, false, true]⟩
      · skip
        refine g_cond_t rfl (nt hb21) ?_
        refine g_seq ?_
        refine g_region ?_
        refine l_of (s_val (v := .int .i64 ((x.id - y.id))) (wt0 rfl) rfl rfl (x_move rfl rfl) ?_)
        refine l_of (s_val (v := .int .i64 ((x.id - y.id))) (wt0 rfl) rfl rfl (x_assign rfl rfl) ?_)
        refine g_nil ?_
        refine g_then ?_
        refine g_ret ?_
        refine g_in_ret ?_
        refine g_then_ret ?_
        refine g_then_ret ?_
        refine g_in_ret ?_
        refine g_then_ret ?_
        refine fin_ret [.tmp 6] [.int .i64 ((x.id - y.id))] rfl ⟨rfl, trivial⟩ ?_
        have hv : c2 x y = (x.id - y.id) := by
          unfold c2
          repeat' split
          all_goals omega
        exact ⟨by rw [hv]; rfl, H17.mask [false, false, false, false, true]⟩
    · skip
      refine g_cond_t rfl (nt hb20) ?_
      refine g_seq ?_
      refine g_region ?_
      refine l_of (s_val (v := .int .i64 ((x.since - y.since))) (wt0 rfl) rfl rfl (x_move rfl rfl) ?_)
      refine l_of (s_val (v := .int .i64 ((x.since - y.since))) (wt0 rfl) rfl rfl (x_assign rfl rfl) ?_)
      refine g_nil ?_
      refine g_then ?_
      refine g_ret ?_
      refine g_in_ret ?_
      refine g_then_ret ?_
      refine g_then_ret ?_
      refine g_in_ret ?_
      refine g_then_ret ?_
      refine fin_ret [.tmp 6] [.int .i64 ((x.since - y.since))] rfl ⟨rfl, trivial⟩ ?_
      have hv : c2 x y = (x.since - y.since) := by
        unfold c2
        repeat' split
        all_goals omega
      exact ⟨by rw [hv]; rfl, H17.mask [false, false, false, false, true]⟩
  · skip
    refine g_cond_t rfl (nt hb19) ?_
    refine g_seq ?_
    refine g_region ?_
    refine l_of (s_val (v := .int .i64 ((y.to - x.to))) (wt0 rfl) rfl rfl (x_move rfl rfl) ?_)
    refine l_of (s_val (v := .int .i64 ((y.to - x.to))) (wt0 rfl) rfl rfl (x_assign rfl rfl) ?_)
    refine g_nil ?_
    refine g_then ?_
    refine g_ret ?_
    refine g_in_ret ?_
    refine g_then_ret ?_
    refine g_then_ret ?_
    refine g_in_ret ?_
    refine g_then_ret ?_
    refine fin_ret [.tmp 6] [.int .i64 ((y.to - x.to))] rfl ⟨rfl, trivial⟩ ?_
    have hv : c2 x y = (y.to - x.to) := by
      unfold c2
      repeat' split
      all_goals omega
    exact ⟨by rw [hv]; rfl, H17.mask [false, false, false, false, true]⟩
set_option maxRecDepth 20000 in
set_option maxHeartbeats 4000000 in
set_option maxRecDepth 20000 in
set_option maxHeartbeats 4000000 in
theorem edge_r (x : Rv) (hx : DV x)  (w : World) : Calls Tryz.prog 70 #[.agg #[.int .i64 (x.id), .bool x.intr, .bool x.chk, .int .i64 (x.frm), .int .i64 (x.to), .int .i64 (x.lt), .int .i64 (x.since), .bool x.snb, .bool x.now, .bool x.seed]] w fun e w' => e = .returned (.int .i64 (hfN x)) ∧ S w' [Old w no] := by
  have H0 := S.old w
  have hfr := frm_rem hx
  unfold DV at hx
  refine enter 13 Tryz.func70 rfl rfl rfl ?_
  refine g_weak [(0, .agg #[.int .i64 (x.id), .bool x.intr, .bool x.chk, .int .i64 (x.frm), .int .i64 (x.to), .int .i64 (x.lt), .int .i64 (x.since), .bool x.snb, .bool x.now, .bool x.seed])] ⟨rfl, trivial⟩ ?_
  refine g_seq ?_
  refine g_region ?_
  refine l_of (s_box H0 (wt0 rfl) rfl rfl rfl rfl ?_)
  intro g1 wq2 H3
  refine l_of (s_val (v := .int .i64 0) (wt0 rfl) rfl rfl (x_assign rfl rfl) ?_)
  refine g_nil ?_
  refine g_then ?_
  refine g_seq ?_
  refine g_region ?_
  refine l_of (s_val (v := .pointer (some ⟨g1, 3, none⟩)) (wt0 rfl) rfl rfl (x_fieldAddr rfl rfl fo30_3 rfl) ?_)
  refine l_of (s_val (v := .int .i64 (x.frm)) (wt0 rfl) rfl rfl (x_load1 H3 0 rfl rfl Tryz.underlying3 rfl rfl rfl) ?_)
  refine l_of (s_val (v := .int .i64 (x.frm % 1001)) (wt0 rfl) rfl rfl (x_bin rfl rfl rfl (b_rem (by omega) (rem0 (by omega)))) ?_)
  refine l_of (s_val (v := .int .i64 (2 * (x.frm % 1001))) (wt0 rfl) rfl rfl (x_bin rfl rfl rfl (b_mul (w64 (by omega)))) ?_)
  refine l_of (s_val (v := .int .i64 ((2 * (x.frm % 1001)) - 1000)) (wt0 rfl) rfl rfl (x_bin rfl rfl rfl (b_sub (w64 (by omega)))) ?_)
  refine l_of (s_val (v := .int .i64 ((2 * (x.frm % 1001)) - 1000)) (wt0 rfl) rfl rfl (x_assign rfl rfl) ?_)
  refine g_nil ?_
  refine g_then ?_
  refine g_seq ?_
  refine g_region ?_
  refine l_of (s_val (v := .int .i64 ((2 * (x.frm % 1001)) - 1000)) (wt0 rfl) rfl rfl (x_move rfl rfl) ?_)
  refine l_of (s_val (v := .int .i64 ((2 * (x.frm % 1001)) - 1000)) (wt0 rfl) rfl rfl (x_move rfl rfl) ?_)
  refine l_of (s_val (v := .int .i64 (0 - ((2 * (x.frm % 1001)) - 1000))) (wt0 rfl) rfl rfl (x_neg rfl rfl (w64 (by omega))) ?_)
  refine l_of (s_val (v := .int .i64 (max ((2 * (x.frm % 1001)) - 1000) (0 - ((2 * (x.frm % 1001)) - 1000)))) (wt0 rfl) rfl rfl (x_max rfl rfl rfl) ?_)
  refine l_of (s_val (v := .int .i64 (max ((2 * (x.frm % 1001)) - 1000) (0 - ((2 * (x.frm % 1001)) - 1000)))) (wt0 rfl) rfl rfl (x_assign rfl rfl) ?_)
  refine g_nil ?_
  refine g_then ?_
  refine g_weak [(2, .int .i64 (max ((2 * (x.frm % 1001)) - 1000) (0 - ((2 * (x.frm % 1001)) - 1000))))] ⟨rfl, trivial⟩ ?_
  refine g_ret ?_
  refine fin_ret [.tmp 2] [.int .i64 (max ((2 * (x.frm % 1001)) - 1000) (0 - ((2 * (x.frm % 1001)) - 1000)))] rfl ⟨rfl, trivial⟩ ?_
  exact ⟨by unfold hfN; rw [Int.zero_sub]; rfl, H3.mask [false, true]⟩
set_option maxRecDepth 20000 in
set_option maxHeartbeats 4000000 in
set_option maxRecDepth 20000 in
set_option maxHeartbeats 4000000 in
theorem less4_r (x y : Rv) (hx : DV x) (hy : DV y)  (w : World) : Calls Tryz.prog 33 #[.int .i64 4, .agg #[.int .i64 (x.id), .bool x.intr, .bool x.chk, .int .i64 (x.frm), .int .i64 (x.to), .int .i64 (x.lt), .int .i64 (x.since), .bool x.snb, .bool x.now, .bool x.seed], .agg #[.int .i64 (y.id), .bool y.intr, .bool y.chk, .int .i64 (y.frm), .int .i64 (y.to), .int .i64 (y.lt), .int .i64 (y.since), .bool y.snb, .bool y.now, .bool y.seed]] w fun e w' => e = .returned (.int .i64 (c4 x y)) ∧ S w' [Old w no] := by
  have H0 := S.old w
  have hx0 := hx
  have hy0 := hy
  have hfx := hfN_in hx
  have hfy := hfN_in hy
  unfold DV at hx hy
  refine enter 93 Tryz.func33 rfl rfl rfl ?_
  refine g_weak [(0, .int .i64 4), (1, .agg #[.int .i64 (x.id), .bool x.intr, .bool x.chk, .int .i64 (x.frm), .int .i64 (x.to), .int .i64 (x.lt), .int .i64 (x.since), .bool x.snb, .bool x.now, .bool x.seed]), (2, .agg #[.int .i64 (y.id), .bool y.intr, .bool y.chk, .int .i64 (y.frm), .int .i64 (y.to), .int .i64 (y.lt), .int .i64 (y.since), .bool y.snb, .bool y.now, .bool y.seed])] ⟨rfl, rfl, rfl, trivial⟩ ?_
  refine g_seq ?_
  refine g_region ?_
  refine l_of (s_box H0 (wt0 rfl) rfl rfl rfl rfl ?_)
  intro g1 wq2 H3
  refine l_of (s_box H3 (wt0 rfl) rfl rfl rfl rfl ?_)
  intro g4 wq5 H6
  refine l_of (s_val (v := .int .i64 0) (wt0 rfl) rfl rfl (x_assign rfl rfl) ?_)
  refine g_nil ?_
  refine g_then ?_
  refine g_seq ?_
  refine g_region ?_
  refine l_of (s_val (v := .slice none 0 0) (wt0 rfl) rfl rfl (x_assign rfl rfl) ?_)
  refine g_nil ?_
  refine g_then ?_
  refine g_seq ?_
  refine g_seq ?_
  refine g_region ?_
  refine l_of (s_val (v := .int .i64 4) (wt0 rfl) rfl rfl (x_move rfl rfl) ?_)
  refine g_nil ?_
  refine g_then ?_
  refine g_block ?_
  refine g_seq ?_
  refine g_region ?_
  refine l_of (s_val (v := .bool (decide ((4 : Int) = 1))) (wt0 rfl) rfl rfl (x_bin rfl rfl rfl b_eql) ?_)
  refine l_of (s_val (v := .bool (decide ((4 : Int) = 1))) (wt0 rfl) rfl rfl (x_assign rfl rfl) ?_)
  refine g_nil ?_
  refine g_then ?_
  refine g_cond_f rfl (by decide) ?_
  refine g_seq ?_
  refine g_region ?_
  refine l_of (s_val (v := .bool (decide ((4 : Int) = 2))) (wt0 rfl) rfl rfl (x_bin rfl rfl rfl b_eql) ?_)
  refine l_of (s_val (v := .bool (decide ((4 : Int) = 2))) (wt0 rfl) rfl rfl (x_assign rfl rfl) ?_)
  refine g_nil ?_
  refine g_then ?_
  refine g_cond_f rfl (by decide) ?_
  refine g_seq ?_
  refine g_region ?_
  refine l_of (s_val (v := .bool (decide ((4 : Int) = 3))) (wt0 rfl) rfl rfl (x_bin rfl rfl rfl b_eql) ?_)
  refine l_of (s_val (v := .bool (decide ((4 : Int) = 3))) (wt0 rfl) rfl rfl (x_assign rfl rfl) ?_)
  refine g_nil ?_
  refine g_then ?_
  refine g_cond_f rfl (by decide) ?_
  refine g_seq ?_
  refine g_region ?_
  refine l_of (s_val (v := .bool (decide ((4 : Int) = 4))) (wt0 rfl) rfl rfl (x_bin rfl rfl rfl b_eql) ?_)
  refine l_of (s_val (v := .bool (decide ((4 : Int) = 4))) (wt0 rfl) rfl rfl (x_assign rfl rfl) ?_)
  refine g_nil ?_
  refine g_then ?_
  refine g_weak [(4, .pointer (some ⟨g1, 0, none⟩)), (5, .pointer (some ⟨g4, 0, none⟩)), (7, .slice none 0 0), (68, .bool (decide ((4 : Int) = 4)))] ⟨rfl, rfl, rfl, rfl, trivial⟩ ?_
  refine g_cond_t rfl (decide_eq_true rfl) ?_
  refine g_anyY [] (fun wx => S wx [Ob g4 (.cells #[.int .i64 (y.id), .bool y.intr, .bool y.chk, .int .i64 (y.frm), .int .i64 (y.to), .int .i64 (y.lt), .int .i64 (y.since), .bool y.snb, .bool y.now, .bool y.seed] 30 (0, 0)), Ob g1 (.cells #[.int .i64 (x.id), .bool x.intr, .bool x.chk, .int .i64 (x.frm), .int .i64 (x.to), .int .i64 (x.lt), .int .i64 (x.since), .bool x.snb, .bool x.now, .bool x.seed] 30 (0, 0))]) (fun wx => S wx [Ob g4 (.cells #[.int .i64 (y.id), .bool y.intr, .bool y.chk, .int .i64 (y.frm), .int .i64 (y.to), .int .i64 (y.lt), .int .i64 (y.since), .bool y.snb, .bool y.now, .bool y.seed] 30 (0, 0)), Ob g1 (.cells #[.int .i64 (x.id), .bool x.intr, .bool x.chk, .int .i64 (x.frm), .int .i64 (x.to), .int .i64 (x.lt), .int .i64 (x.since), .bool x.snb, .bool x.now, .bool x.seed] 30 (0, 0))]) [] (by kernel_rfl) H6 (fun wq7 H8 => ?_)
  refine y_take (v := .agg #[.int .i64 (y.id), .bool y.intr, .bool y.chk, .int .i64 (y.frm), .int .i64 (y.to), .int .i64 (y.lt), .int .i64 (y.since), .bool y.snb, .bool y.now, .bool y.seed]) 0 rfl (wt0 rfl) rfl rfl rfl (by kernel_rfl) (by kernel_rfl) (by kernel_rfl) (by kernel_rfl) (by kernel_rfl) (H8.mask [true, true, false]) (fun wx H => x_loadA H 0 rfl rfl Tryz.underlying30 rfl sz30 rfl rfl rfl) ?_
  refine y_take (v := .agg #[.int .i64 (x.id), .bool x.intr, .bool x.chk, .int .i64 (x.frm), .int .i64 (x.to), .int .i64 (x.lt), .int .i64 (x.since), .bool x.snb, .bool x.now, .bool x.seed]) 2 rfl (wt0 rfl) rfl rfl rfl (by kernel_rfl) (by kernel_rfl) (by kernel_rfl) (by kernel_rfl) (by kernel_rfl) (H8.mask [true, true, false]) (fun wx H => x_loadA H 1 rfl rfl Tryz.underlying30 rfl sz30 rfl rfl rfl) ?_
  refine y_one (i := 1) (by kernel_rfl) rfl ?_
  refine s_call (wt0 rfl) (x_call' rfl rfl cl70) (edge_r y hy0 _) ?_
  rintro _ wq9 ⟨rfl, H10⟩
  replace H10 : S wq9 [Ob g4 (.cells #[.int .i64 (y.id), .bool y.intr, .bool y.chk, .int .i64 (y.frm), .int .i64 (y.to), .int .i64 (y.lt), .int .i64 (y.since), .bool y.snb, .bool y.now, .bool y.seed] 30 (0, 0)), Ob g1 (.cells #[.int .i64 (x.id), .bool x.intr, .bool x.chk, .int .i64 (x.frm), .int .i64 (x.to), .int .i64 (x.lt), .int .i64 (x.since), .bool x.snb, .bool x.now, .bool x.seed] 30 (0, 0)), Old w no] := H8.absorb (new := []) H10
  refine b_ret rfl rfl ?_
  refine y_k (H10.mask [true, true, false]) (H10.mask [true, true, false]) ?_
  refine y_one (i := 3) (by kernel_rfl) rfl ?_
  refine s_call (wt0 rfl) (x_call' rfl rfl cl70) (edge_r x hx0 _) ?_
  rintro _ wq11 ⟨rfl, H12⟩
  replace H12 : S wq11 [Ob g4 (.cells #[.int .i64 (y.id), .bool y.intr, .bool y.chk, .int .i64 (y.frm), .int .i64 (y.to), .int .i64 (y.lt), .int .i64 (y.since), .bool y.snb, .bool y.now, .bool y.seed] 30 (0, 0)), Ob g1 (.cells #[.int .i64 (x.id), .bool x.intr, .bool x.chk, .int .i64 (x.frm), .int .i64 (x.to), .int .i64 (x.lt), .int .i64 (x.since), .bool x.snb, .bool x.now, .bool x.seed] 30 (0, 0)), Old w no] := H10.absorb (new := []) H12
  refine b_ret rfl rfl ?_
  refine y_k (H12.mask [true, true, false]) (H12.mask [true, true, false]) ?_
  refine y_pure (v := .int .i64 ((hfN y) - (hfN x))) 4 rfl (wt0 rfl) rfl rfl rfl (by kernel_rfl) (by kernel_rfl) (by kernel_rfl) (by kernel_rfl) (fun wx => x_bin rfl rfl rfl (b_sub (w64 (by omega)))) ?_
  refine y_one (i := 5) (by kernel_rfl) rfl ?_
  refine s_buildSlice H12 (wt0 rfl) rfl rfl rfl (vs := [.int .i64 ((hfN y) - (hfN x))]) rfl Tryz.underlying24 sz3 ze3 rfl rfl (cells := #[.int .i64 ((hfN y) - (hfN x))]) (by kernel_rfl) ?_
  intro g13 wq14 H15
  refine y_k (H15.mask [false, true, true, false]) (H15.mask [false, true, true, false]) ?_
  refine y_pure (v := .slice (some ⟨g13, 0, none⟩) (1) (1)) 6 rfl (wt0 rfl) rfl rfl rfl (by kernel_rfl) (by kernel_rfl) (by kernel_rfl) (by kernel_rfl) (fun wx => x_assign rfl rfl) ?_
  refine y_done (by kernel_rfl) ?_
  refine g_in ?_
  refine g_then ?_
  refine g_seq ?_
  refine g_seq ?_
  refine g_region ?_
  refine l_of (s_val (v := .slice (some ⟨g13, 0, none⟩) (1) (1)) (wt0 rfl) rfl rfl (x_move rfl rfl) ?_)
  refine l_of (s_val (v := .pointer (some ⟨g1, 0, none⟩)) (wt0 rfl) rfl rfl (x_fieldAddr rfl rfl fo30_0 rfl) ?_)
  refine l_of (s_val (v := .int .i64 (x.id)) (wt0 rfl) rfl rfl (x_load1 H15 2 rfl rfl Tryz.underlying3 rfl rfl rfl) ?_)
  refine l_of (s_val (v := .pointer (some ⟨g4, 0, none⟩)) (wt0 rfl) rfl rfl (x_fieldAddr rfl rfl fo30_0 rfl) ?_)
  refine l_of (s_val (v := .int .i64 (y.id)) (wt0 rfl) rfl rfl (x_load1 H15 1 rfl rfl Tryz.underlying3 rfl rfl rfl) ?_)
  refine l_of (s_val (v := .int .i64 (x.id - y.id)) (wt0 rfl) rfl rfl (x_bin rfl rfl rfl (b_sub (w64 (by omega)))) ?_)
  refine l_of (s_buildSlice H15 (wt0 rfl) rfl rfl rfl (vs := [.int .i64 (x.id - y.id)]) rfl Tryz.underlying24 sz3 ze3 rfl rfl (cells := #[.int .i64 (x.id - y.id)]) (by kernel_rfl) ?_)
  intro g16 wq17 H18
  have H19 : S wq17 [Ob g16 (.cells #[.int .i64 (x.id - y.id)] 3 (0, 0)), Rw 3 1 (some ⟨g13, 0, none⟩) 1 1 (fl intL ([(hfN y) - (hfN x)])), Ob g4 (.cells #[.int .i64 (y.id), .bool y.intr, .bool y.chk, .int .i64 (y.frm), .int .i64 (y.to), .int .i64 (y.lt), .int .i64 (y.since), .bool y.snb, .bool y.now, .bool y.seed] 30 (0, 0)), Ob g1 (.cells #[.int .i64 (x.id), .bool x.intr, .bool x.chk, .int .i64 (x.frm), .int .i64 (x.to), .int .i64 (x.lt), .int .i64 (x.since), .bool x.snb, .bool x.now, .bool x.seed] 30 (0, 0)), Old w no] := S.obFl intE H18 (k := 1) rfl rfl (by decide) rfl
  have hln24a := (H19.rwReads (k := 1) rfl).lenL intE
  have hln24 : ([(hfN y) - (hfN x)] ++ [x.id - y.id]).length = 1 + 1 := by simp only [List.length_append, List.length_cons, List.length_nil] <;> omega
  refine l_of (s_appBn (m := 1) (l := [(hfN y) - (hfN x)]) (l2 := [x.id - y.id]) intE H19 1 (j0 := 0) rfl rfl ⟨rfl, Nat.le_refl _⟩ (wt0 rfl) rfl rfl rfl rfl rfl rfl Tryz.underlying24 inf3 rfl (by decide) (by omega) ?_)
  intro p20 c21 wq22 H23
  replace H23 : S wq22 [Ob g16 (.cells #[.int .i64 (x.id - y.id)] 3 (0, 0)), Rw 3 1 p20 (([(hfN y) - (hfN x)] ++ [x.id - y.id]).length) c21 (fl intL ([(hfN y) - (hfN x)] ++ [x.id - y.id])), Ob g4 (.cells #[.int .i64 (y.id), .bool y.intr, .bool y.chk, .int .i64 (y.frm), .int .i64 (y.to), .int .i64 (y.lt), .int .i64 (y.since), .bool y.snb, .bool y.now, .bool y.seed] 30 (0, 0)), Ob g1 (.cells #[.int .i64 (x.id), .bool x.intr, .bool x.chk, .int .i64 (x.frm), .int .i64 (x.to), .int .i64 (x.lt), .int .i64 (x.since), .bool x.snb, .bool x.now, .bool x.seed] 30 (0, 0)), Old w no] := H23
  refine l_of (s_val (v := .int .i64 2) (wt0 rfl) rfl rfl (x_lenl rfl rfl Tryz.underlying24) ?_)
  refine l_of (s_val (v := .int .i64 0) (wt0 rfl) rfl rfl (x_move rfl rfl) ?_)
  refine g_nil ?_
  refine g_then ?_
  refine g_weak [(83, .slice p20 (([(hfN y) - (hfN x)] ++ [x.id - y.id]).length) c21), (84, .int .i64 2), (85, .int .i64 0)] ⟨rfl, rfl, rfl, trivial⟩ ?_
  refine g_block ?_
  refine g_rounds 3 ?_
  refine g_roundU ?_
  refine g_seq ?_
  refine g_region ?_
  refine l_of (s_val (v := .bool (decide ((0 : Int) < 2))) (wt0 rfl) rfl rfl (x_bin rfl rfl rfl b_lss) ?_)
  refine g_nil ?_
  refine g_then ?_
  refine g_seq ?_
  refine g_cond_t rfl (by decide) ?_
  refine g_skip ?_
  refine g_then ?_
  refine g_seq ?_
  refine g_block ?_
  refine g_seq ?_
  refine g_region ?_
  refine l_of (s_val (v := .pointer ((p20).map fun q => q.add (0 * 1))) (wt0 rfl) rfl rfl (x_idxR 0 (H23.rwReads (k := 1) rfl) rfl rfl rfl Tryz.underlying24 sz3 (by omega)) ?_)
  refine l_of (s_val (v := .int .i64 (((hfN y) - (hfN x)))) (wt0 rfl) rfl rfl (x_loadR1 0 (H23.rwReads (k := 1) rfl) (by omega) rfl rfl Tryz.underlying3 rfl (intE.flAt1 rfl rfl)) ?_)
  refine l_of (s_val (v := .int .i64 (((hfN y) - (hfN x)))) (wt0 rfl) rfl rfl (x_assign rfl rfl) ?_)
  refine g_nil ?_
  refine g_then ?_
  refine g_seq ?_
  refine g_region ?_
  refine l_of (s_val (v := .int .i64 (((hfN y) - (hfN x)))) (wt0 rfl) rfl rfl (x_move rfl rfl) ?_)
  refine l_of (s_val (v := .bool (!decide ((((hfN y) - (hfN x)) : Int) = 0))) (wt0 rfl) rfl rfl (x_bin rfl rfl rfl b_neq) ?_)
  refine g_nil ?_
  refine g_then ?_
  by_cases hb25 : (((hfN y) - (hfN x)) : Int) = 0
  · skip
    refine g_cond_f rfl (nf hb25) ?_
    refine g_skip ?_
    refine g_in ?_
    refine g_then ?_
    refine g_region ?_
    refine l_of (s_val (v := .int .i64 1) (wt0 rfl) rfl rfl (x_bin rfl rfl rfl (b_add (r := 1) (by decide))) ?_)
    refine l_of (s_val (v := .int .i64 1) (wt0 rfl) rfl rfl (x_move rfl rfl) ?_)
    refine g_nil ?_
    refine g_then ?_
    refine g_roundU ?_
    refine g_seq ?_
    refine g_region ?_
    refine l_of (s_val (v := .bool (decide ((1 : Int) < 2))) (wt0 rfl) rfl rfl (x_bin rfl rfl rfl b_lss) ?_)
    refine g_nil ?_
    refine g_then ?_
    refine g_seq ?_
    refine g_cond_t rfl (by decide) ?_
    refine g_skip ?_
    refine g_then ?_
    refine g_seq ?_
    refine g_block ?_
    refine g_seq ?_
    refine g_region ?_
    refine l_of (s_val (v := .pointer ((p20).map fun q => q.add (1 * 1))) (wt0 rfl) rfl rfl (x_idxR 1 (H23.rwReads (k := 1) rfl) rfl rfl rfl Tryz.underlying24 sz3 (by omega)) ?_)
    refine l_of (s_val (v := .int .i64 ((x.id - y.id))) (wt0 rfl) rfl rfl (x_loadR1 1 (H23.rwReads (k := 1) rfl) (by omega) rfl rfl Tryz.underlying3 rfl (intE.flAt1 rfl rfl)) ?_)
    refine l_of (s_val (v := .int .i64 ((x.id - y.id))) (wt0 rfl) rfl rfl (x_assign rfl rfl) ?_)
    refine g_nil ?_
    refine g_then ?_
    refine g_seq ?_
    refine g_region ?_
    refine l_of (s_val (v := .int .i64 ((x.id - y.id))) (wt0 rfl) rfl rfl (x_move rfl rfl) ?_)
    refine l_of (s_val (v := .bool (!decide (((x.id - y.id) : Int) = 0))) (wt0 rfl) rfl rfl (x_bin rfl rfl rfl b_neq) ?_)
    refine g_nil ?_
    refine g_then ?_
    by_cases hb26 : ((x.id - y.id) : Int) = 0
    · skip
      refine g_cond_f rfl (nf hb26) ?_
      refine g_skip ?_
      refine g_in ?_
      refine g_then ?_
      refine g_region ?_
      refine l_of (s_val (v := .int .i64 2) (wt0 rfl) rfl rfl (x_bin rfl rfl rfl (b_add (r := 2) (by decide))) ?_)
      refine l_of (s_val (v := .int .i64 2) (wt0 rfl) rfl rfl (x_move rfl rfl) ?_)
      refine g_nil ?_
      refine g_then ?_
      refine g_roundU ?_
      refine g_seq ?_
      refine g_region ?_
      refine l_of (s_val (v := .bool (decide ((2 : Int) < 2))) (wt0 rfl) rfl rfl (x_bin rfl rfl rfl b_lss) ?_)
      refine g_nil ?_
      refine g_then ?_
      refine g_seq ?_
      refine g_cond_f rfl (by decide) ?_
      refine g_exit ?_
      refine g_then_exit ?_
      refine g_then_exit ?_
      refine g_in_hit ?_
      refine g_then ?_
      refine g_seq ?_
      refine g_region ?_
      refine l_of (s_val (v := .int .i64 0) (wt0 rfl) rfl rfl (x_assign rfl rfl) ?_)
      refine g_nil ?_
      refine g_then ?_
      refine g_ret ?_
      refine fin_ret [.tmp 6] [.int .i64 0] rfl ⟨rfl, trivial⟩ ?_
      have hv : c4 x y = 0 := by
        unfold c4
        repeat' split
        all_goals omega
      exact ⟨by rw [hv]; rfl, H23.mask [false, false, false, false, true]⟩
    · skip
      refine g_cond_t rfl (nt hb26) ?_
      refine g_seq ?_
      refine g_region ?_
      refine l_of (s_val (v := .int .i64 ((x.id - y.id))) (wt0 rfl) rfl rfl (x_move rfl rfl) ?_)
      refine l_of (s_val (v := .int .i64 ((x.id - y.id))) (wt0 rfl) rfl rfl (x_assign rfl rfl) ?_)
      refine g_nil ?_
      refine g_then ?_
      refine g_ret ?_
      refine g_in_ret ?_
      refine g_then_ret ?_
      refine g_then_ret ?_
      refine g_in_ret ?_
      refine g_then_ret ?_
      refine fin_ret [.tmp 6] [.int .i64 ((x.id - y.id))] rfl ⟨rfl, trivial⟩ ?_
      have hv : c4 x y = (x.id - y.id) := by
        unfold c4
        repeat' split
        all_goals omega
      exact ⟨by rw [hv]; rfl, H23.mask [false, false, false, false, true]⟩
  · skip
    refine g_cond_t rfl (nt hb25) ?_
    refine g_seq ?_
    refine g_region ?_
    refine l_of (s_val (v := .int .i64 (((hfN y) - (hfN x)))) (wt0 rfl) rfl rfl (x_move rfl rfl) ?_)
    refine l_of (s_val (v := .int .i64 (((hfN y) - (hfN x)))) (wt0 rfl) rfl rfl (x_assign rfl rfl) ?_)
    refine g_nil ?_
    refine g_then ?_
    refine g_ret ?_
    refine g_in_ret ?_
    refine g_then_ret ?_
    refine g_then_ret ?_
    refine g_in_ret ?_
    refine g_then_ret ?_
    refine fin_ret [.tmp 6] [.int .i64 (((hfN y) - (hfN x)))] rfl ⟨rfl, trivial⟩ ?_
    have hv : c4 x y = ((hfN y) - (hfN x)) := by
      unfold c4
      repeat' split
      all_goals omega
    exact ⟨by rw [hv]; rfl, H23.mask [false, false, false, false, true]⟩
set_option maxRecDepth 20000 in
set_option maxHeartbeats 4000000 in
set_option maxRecDepth 20000 in
set_option maxHeartbeats 4000000 in
theorem keeps_r (x : Rv)  (w : World) : Calls Tryz.prog 69 #[.agg #[.int .i64 (x.id), .bool x.intr, .bool x.chk, .int .i64 (x.frm), .int .i64 (x.to), .int .i64 (x.lt), .int .i64 (x.since), .bool x.snb, .bool x.now, .bool x.seed]] w fun e w' => e = .returned (.bool (kpB x)) ∧ S w' [Old w no] := by
  have H0 := S.old w
  refine enter 10 Tryz.func69 rfl rfl rfl ?_
  refine g_weak [(0, .agg #[.int .i64 (x.id), .bool x.intr, .bool x.chk, .int .i64 (x.frm), .int .i64 (x.to), .int .i64 (x.lt), .int .i64 (x.since), .bool x.snb, .bool x.now, .bool x.seed])] ⟨rfl, trivial⟩ ?_
  refine g_seq ?_
  refine g_region ?_
  refine l_of (s_box H0 (wt0 rfl) rfl rfl rfl rfl ?_)
  intro g1 wq2 H3
  refine l_of (s_val (v := .bool false) (wt0 rfl) rfl rfl (x_assign rfl rfl) ?_)
  refine g_nil ?_
  refine g_then ?_
  refine g_seq ?_
  refine g_region ?_
  refine l_of (s_val (v := .pointer (some ⟨g1, 8, none⟩)) (wt0 rfl) rfl rfl (x_fieldAddr rfl rfl fo30_8 rfl) ?_)
  refine l_of (s_val (v := .bool x.now) (wt0 rfl) rfl rfl (x_load1 H3 0 rfl rfl Tryz.underlying4 rfl rfl rfl) ?_)
  refine l_of (s_val (v := .bool x.now) (wt0 rfl) rfl rfl (x_move rfl rfl) ?_)
  rcases Bool.eq_false_or_eq_true (x.now) with hb4 | hb4
  · skip
    refine l_of (s_val (v := .pointer (some ⟨g1, 4, none⟩)) (wt1 rfl rfl rfl rfl hb4) rfl rfl (x_fieldAddr rfl rfl fo30_4 rfl) ?_)
    refine l_of (s_val (v := .int .i64 (x.to)) (wt1 rfl rfl rfl rfl hb4) rfl rfl (x_load1 H3 0 rfl rfl Tryz.underlying3 rfl rfl rfl) ?_)
    refine l_of (s_val (v := .bool (decide ((x.to : Int) < 16384))) (wt1 rfl rfl rfl rfl hb4) rfl rfl (x_bin rfl rfl rfl b_lss) ?_)
    refine l_of (s_val (v := .bool (decide ((x.to : Int) < 16384))) (wt0 rfl) rfl rfl (x_pick_t rfl rfl hb4 rfl) ?_)
    refine l_of (s_val (v := .bool (decide ((x.to : Int) < 16384))) (wt0 rfl) rfl rfl (x_assign rfl rfl) ?_)
    refine g_nil ?_
    refine g_then ?_
    refine g_ret ?_
    refine fin_ret [.tmp 2] [.bool (decide ((x.to : Int) < 16384))] rfl ⟨rfl, trivial⟩ ?_
    exact ⟨by unfold kpB; simp [hb4, tupled], H3.mask [false, true]⟩
  · skip
    refine l_of (s_not (wn1 rfl rfl rfl rfl hb4) rfl rfl ?_)
    refine l_of (s_not (wn1 rfl rfl rfl rfl hb4) rfl rfl ?_)
    refine l_of (s_not (wn1 rfl rfl rfl rfl hb4) rfl rfl ?_)
    refine l_of (s_val (v := .bool false) (wt0 rfl) rfl rfl (x_pick_f rfl rfl hb4 rfl) ?_)
    refine l_of (s_val (v := .bool false) (wt0 rfl) rfl rfl (x_assign rfl rfl) ?_)
    refine g_nil ?_
    refine g_then ?_
    refine g_ret ?_
    refine fin_ret [.tmp 2] [.bool false] rfl ⟨rfl, trivial⟩ ?_
    exact ⟨by unfold kpB; simp [hb4, tupled], H3.mask [false, true]⟩
set_option maxRecDepth 20000 in
set_option maxHeartbeats 4000000 in
set_option maxRecDepth 20000 in
set_option maxHeartbeats 4000000 in
theorem less3_r (x y : Rv) (hx : DV3 x) (hy : DV3 y)  (w : World) : Calls Tryz.prog 33 #[.int .i64 3, .agg #[.int .i64 (x.id), .bool x.intr, .bool x.chk, .int .i64 (x.frm), .int .i64 (x.to), .int .i64 (x.lt), .int .i64 (x.since), .bool x.snb, .bool x.now, .bool x.seed], .agg #[.int .i64 (y.id), .bool y.intr, .bool y.chk, .int .i64 (y.frm), .int .i64 (y.to), .int .i64 (y.lt), .int .i64 (y.since), .bool y.snb, .bool y.now, .bool y.seed]] w fun e w' => e = .returned (.int .i64 (c3 x y)) ∧ S w' [Old w no] := by
  have H0 := S.old w
  unfold DV3 DV at hx hy
  have hsg := sgN_st hx.2 hy.2
  have hkx := kp_st hx.2
  have hky := kp_st hy.2
  refine enter 93 Tryz.func33 rfl rfl rfl ?_
  refine g_weak [(0, .int .i64 3), (1, .agg #[.int .i64 (x.id), .bool x.intr, .bool x.chk, .int .i64 (x.frm), .int .i64 (x.to), .int .i64 (x.lt), .int .i64 (x.since), .bool x.snb, .bool x.now, .bool x.seed]), (2, .agg #[.int .i64 (y.id), .bool y.intr, .bool y.chk, .int .i64 (y.frm), .int .i64 (y.to), .int .i64 (y.lt), .int .i64 (y.since), .bool y.snb, .bool y.now, .bool y.seed])] ⟨rfl, rfl, rfl, trivial⟩ ?_
  refine g_seq ?_
  refine g_region ?_
  refine l_of (s_box H0 (wt0 rfl) rfl rfl rfl rfl ?_)
  intro g1 wq2 H3
  refine l_of (s_box H3 (wt0 rfl) rfl rfl rfl rfl ?_)
  intro g4 wq5 H6
  refine l_of (s_val (v := .int .i64 0) (wt0 rfl) rfl rfl (x_assign rfl rfl) ?_)
  refine g_nil ?_
  refine g_then ?_
  refine g_seq ?_
  refine g_region ?_
  refine l_of (s_val (v := .slice none 0 0) (wt0 rfl) rfl rfl (x_assign rfl rfl) ?_)
  refine g_nil ?_
  refine g_then ?_
  refine g_seq ?_
  refine g_seq ?_
  refine g_region ?_
  refine l_of (s_val (v := .int .i64 3) (wt0 rfl) rfl rfl (x_move rfl rfl) ?_)
  refine g_nil ?_
  refine g_then ?_
  refine g_block ?_
  refine g_seq ?_
  refine g_region ?_
  refine l_of (s_val (v := .bool (decide ((3 : Int) = 1))) (wt0 rfl) rfl rfl (x_bin rfl rfl rfl b_eql) ?_)
  refine l_of (s_val (v := .bool (decide ((3 : Int) = 1))) (wt0 rfl) rfl rfl (x_assign rfl rfl) ?_)
  refine g_nil ?_
  refine g_then ?_
  refine g_cond_f rfl (by decide) ?_
  refine g_seq ?_
  refine g_region ?_
  refine l_of (s_val (v := .bool (decide ((3 : Int) = 2))) (wt0 rfl) rfl rfl (x_bin rfl rfl rfl b_eql) ?_)
  refine l_of (s_val (v := .bool (decide ((3 : Int) = 2))) (wt0 rfl) rfl rfl (x_assign rfl rfl) ?_)
  refine g_nil ?_
  refine g_then ?_
  refine g_cond_f rfl (by decide) ?_
  refine g_seq ?_
  refine g_region ?_
  refine l_of (s_val (v := .bool (decide ((3 : Int) = 3))) (wt0 rfl) rfl rfl (x_bin rfl rfl rfl b_eql) ?_)
  refine l_of (s_val (v := .bool (decide ((3 : Int) = 3))) (wt0 rfl) rfl rfl (x_assign rfl rfl) ?_)
  refine g_nil ?_
  refine g_then ?_
  refine g_cond_t rfl (decide_eq_true rfl) ?_
  refine g_seq ?_
  refine g_anyY [] (fun wx => S wx [Ob g4 (.cells #[.int .i64 (y.id), .bool y.intr, .bool y.chk, .int .i64 (y.frm), .int .i64 (y.to), .int .i64 (y.lt), .int .i64 (y.since), .bool y.snb, .bool y.now, .bool y.seed] 30 (0, 0)), Ob g1 (.cells #[.int .i64 (x.id), .bool x.intr, .bool x.chk, .int .i64 (x.frm), .int .i64 (x.to), .int .i64 (x.lt), .int .i64 (x.since), .bool x.snb, .bool x.now, .bool x.seed] 30 (0, 0))]) (fun wx => S wx [Ob g4 (.cells #[.int .i64 (y.id), .bool y.intr, .bool y.chk, .int .i64 (y.frm), .int .i64 (y.to), .int .i64 (y.lt), .int .i64 (y.since), .bool y.snb, .bool y.now, .bool y.seed] 30 (0, 0)), Ob g1 (.cells #[.int .i64 (x.id), .bool x.intr, .bool x.chk, .int .i64 (x.frm), .int .i64 (x.to), .int .i64 (x.lt), .int .i64 (x.since), .bool x.snb, .bool x.now, .bool x.seed] 30 (0, 0))]) [] (by kernel_rfl) H6 (fun wq7 H8 => ?_)
  refine y_take (v := .agg #[.int .i64 (x.id), .bool x.intr, .bool x.chk, .int .i64 (x.frm), .int .i64 (x.to), .int .i64 (x.lt), .int .i64 (x.since), .bool x.snb, .bool x.now, .bool x.seed]) 0 rfl (wt0 rfl) rfl rfl rfl (by kernel_rfl) (by kernel_rfl) (by kernel_rfl) (by kernel_rfl) (by kernel_rfl) (H8.mask [true, true, false]) (fun wx H => x_loadA H 1 rfl rfl Tryz.underlying30 rfl sz30 rfl rfl rfl) ?_
  refine y_take (v := .agg #[.int .i64 (y.id), .bool y.intr, .bool y.chk, .int .i64 (y.frm), .int .i64 (y.to), .int .i64 (y.lt), .int .i64 (y.since), .bool y.snb, .bool y.now, .bool y.seed]) 2 rfl (wt0 rfl) rfl rfl rfl (by kernel_rfl) (by kernel_rfl) (by kernel_rfl) (by kernel_rfl) (by kernel_rfl) (H8.mask [true, true, false]) (fun wx H => x_loadA H 0 rfl rfl Tryz.underlying30 rfl sz30 rfl rfl rfl) ?_
  refine y_one (i := 1) (by kernel_rfl) rfl ?_
  refine s_call (wt0 rfl) (x_call' rfl rfl cl69) (keeps_r x _) ?_
  rintro _ wq9 ⟨rfl, H10⟩
  replace H10 : S wq9 [Ob g4 (.cells #[.int .i64 (y.id), .bool y.intr, .bool y.chk, .int .i64 (y.frm), .int .i64 (y.to), .int .i64 (y.lt), .int .i64 (y.since), .bool y.snb, .bool y.now, .bool y.seed] 30 (0, 0)), Ob g1 (.cells #[.int .i64 (x.id), .bool x.intr, .bool x.chk, .int .i64 (x.frm), .int .i64 (x.to), .int .i64 (x.lt), .int .i64 (x.since), .bool x.snb, .bool x.now, .bool x.seed] 30 (0, 0)), Old w no] := H8.absorb (new := []) H10
  refine b_ret rfl rfl ?_
  refine y_k (H10.mask [true, true, false]) (H10.mask [true, true, false]) ?_
  refine y_one (i := 3) (by kernel_rfl) rfl ?_
  refine s_call (wt0 rfl) (x_call' rfl rfl cl69) (keeps_r y _) ?_
  rintro _ wq11 ⟨rfl, H12⟩
  replace H12 : S wq11 [Ob g4 (.cells #[.int .i64 (y.id), .bool y.intr, .bool y.chk, .int .i64 (y.frm), .int .i64 (y.to), .int .i64 (y.lt), .int .i64 (y.since), .bool y.snb, .bool y.now, .bool y.seed] 30 (0, 0)), Ob g1 (.cells #[.int .i64 (x.id), .bool x.intr, .bool x.chk, .int .i64 (x.frm), .int .i64 (x.to), .int .i64 (x.lt), .int .i64 (x.since), .bool x.snb, .bool x.now, .bool x.seed] 30 (0, 0)), Old w no] := H10.absorb (new := []) H12
  refine b_ret rfl rfl ?_
  refine y_k (H12.mask [true, true, false]) (H12.mask [true, true, false]) ?_
  refine y_one (i := 4) (by kernel_rfl) rfl ?_
  refine s_call (wt0 rfl) (x_call' rfl rfl cl68) (signed_r (kpB x) (kpB y) _) ?_
  rintro _ wq13 ⟨rfl, H14⟩
  replace H14 : S wq13 [Ob g4 (.cells #[.int .i64 (y.id), .bool y.intr, .bool y.chk, .int .i64 (y.frm), .int .i64 (y.to), .int .i64 (y.lt), .int .i64 (y.since), .bool y.snb, .bool y.now, .bool y.seed] 30 (0, 0)), Ob g1 (.cells #[.int .i64 (x.id), .bool x.intr, .bool x.chk, .int .i64 (x.frm), .int .i64 (x.to), .int .i64 (x.lt), .int .i64 (x.since), .bool x.snb, .bool x.now, .bool x.seed] 30 (0, 0)), Old w no] := H12.absorb (new := []) H14
  refine b_ret rfl rfl ?_
  refine y_k (H14.mask [true, true, false]) (H14.mask [true, true, false]) ?_
  refine y_one (i := 5) (by kernel_rfl) rfl ?_
  refine s_buildSlice H14 (wt0 rfl) rfl rfl rfl (vs := [.int .i64 ((sgN (kpB x) (kpB y)))]) rfl Tryz.underlying24 sz3 ze3 rfl rfl (cells := #[.int .i64 ((sgN (kpB x) (kpB y)))]) (by kernel_rfl) ?_
  intro g15 wq16 H17
  refine y_k (H17.mask [false, true, true, false]) (H17.mask [false, true, true, false]) ?_
  refine y_pure (v := .slice (some ⟨g15, 0, none⟩) (1) (1)) 6 rfl (wt0 rfl) rfl rfl rfl (by kernel_rfl) (by kernel_rfl) (by kernel_rfl) (by kernel_rfl) (fun wx => x_assign rfl rfl) ?_
  refine y_done (by kernel_rfl) ?_
  refine g_then ?_
  refine g_weak [(4, .pointer (some ⟨g1, 0, none⟩)), (5, .pointer (some ⟨g4, 0, none⟩)), (7, .slice (some ⟨g15, 0, none⟩) (1) (1))] ⟨rfl, rfl, rfl, trivial⟩ ?_
  refine g_seq ?_
  refine g_region ?_
  refine l_of (s_val (v := .agg #[.int .i64 (x.id), .bool x.intr, .bool x.chk, .int .i64 (x.frm), .int .i64 (x.to), .int .i64 (x.lt), .int .i64 (x.since), .bool x.snb, .bool x.now, .bool x.seed]) (wt0 rfl) rfl rfl (x_loadA H17 2 rfl rfl Tryz.underlying30 rfl sz30 rfl rfl rfl) ?_)
  refine l_of (s_call (wt0 rfl) (x_call' rfl rfl cl69) (keeps_r x _) ?_)
  rintro _ wq18 ⟨rfl, H19⟩
  replace H19 : S wq18 [Ob g15 (.cells #[.int .i64 ((sgN (kpB x) (kpB y)))] 3 (0, 0)), Ob g4 (.cells #[.int .i64 (y.id), .bool y.intr, .bool y.chk, .int .i64 (y.frm), .int .i64 (y.to), .int .i64 (y.lt), .int .i64 (y.since), .bool y.snb, .bool y.now, .bool y.seed] 30 (0, 0)), Ob g1 (.cells #[.int .i64 (x.id), .bool x.intr, .bool x.chk, .int .i64 (x.frm), .int .i64 (x.to), .int .i64 (x.lt), .int .i64 (x.since), .bool x.snb, .bool x.now, .bool x.seed] 30 (0, 0)), Old w no] := H17.absorb (new := []) H19
  refine b_ret rfl rfl ?_
  refine l_of (s_val (v := .bool (!((kpB x)))) (wt0 rfl) rfl rfl (x_not (b := (kpB x)) rfl rfl) ?_)
  refine l_of (s_val (v := .bool (!((kpB x)))) (wt0 rfl) rfl rfl (x_move rfl rfl) ?_)
  rcases Bool.eq_false_or_eq_true ((kpB x)) with hb20 | hb20
  · skip
    refine l_of (s_not (wn1 rfl rfl rfl rfl (neg_of hb20)) rfl rfl ?_)
    refine l_of (s_not (wn1 rfl rfl rfl rfl (neg_of hb20)) rfl rfl ?_)
    refine l_of (s_not (wn1 rfl rfl rfl rfl (neg_of hb20)) rfl rfl ?_)
    refine l_of (s_val (v := .bool false) (wt0 rfl) rfl rfl (x_pick_f rfl rfl (neg_of hb20) rfl) ?_)
    refine g_nil ?_
    refine g_then ?_
    refine g_cond_f rfl rfl ?_
    refine g_skip ?_
    refine g_in ?_
    refine g_then ?_
    refine g_seq ?_
    refine g_seq ?_
    refine g_region ?_
    refine l_of (s_val (v := .slice (some ⟨g15, 0, none⟩) (1) (1)) (wt0 rfl) rfl rfl (x_move rfl rfl) ?_)
    refine l_of (s_val (v := .pointer (some ⟨g1, 0, none⟩)) (wt0 rfl) rfl rfl (x_fieldAddr rfl rfl fo30_0 rfl) ?_)
    refine l_of (s_val (v := .int .i64 (x.id)) (wt0 rfl) rfl rfl (x_load1 H19 2 rfl rfl Tryz.underlying3 rfl rfl rfl) ?_)
    refine l_of (s_val (v := .pointer (some ⟨g4, 0, none⟩)) (wt0 rfl) rfl rfl (x_fieldAddr rfl rfl fo30_0 rfl) ?_)
    refine l_of (s_val (v := .int .i64 (y.id)) (wt0 rfl) rfl rfl (x_load1 H19 1 rfl rfl Tryz.underlying3 rfl rfl rfl) ?_)
    refine l_of (s_val (v := .int .i64 (x.id - y.id)) (wt0 rfl) rfl rfl (x_bin rfl rfl rfl (b_sub (w64 (by omega)))) ?_)
    refine l_of (s_buildSlice H19 (wt0 rfl) rfl rfl rfl (vs := [.int .i64 (x.id - y.id)]) rfl Tryz.underlying24 sz3 ze3 rfl rfl (cells := #[.int .i64 (x.id - y.id)]) (by kernel_rfl) ?_)
    intro g21 wq22 H23
    have H24 : S wq22 [Ob g21 (.cells #[.int .i64 (x.id - y.id)] 3 (0, 0)), Rw 3 1 (some ⟨g15, 0, none⟩) 1 1 (fl intL ([(sgN (kpB x) (kpB y))])), Ob g4 (.cells #[.int .i64 (y.id), .bool y.intr, .bool y.chk, .int .i64 (y.frm), .int .i64 (y.to), .int .i64 (y.lt), .int .i64 (y.since), .bool y.snb, .bool y.now, .bool y.seed] 30 (0, 0)), Ob g1 (.cells #[.int .i64 (x.id), .bool x.intr, .bool x.chk, .int .i64 (x.frm), .int .i64 (x.to), .int .i64 (x.lt), .int .i64 (x.since), .bool x.snb, .bool x.now, .bool x.seed] 30 (0, 0)), Old w no] := S.obFl intE H23 (k := 1) rfl rfl (by decide) rfl
    have hln29a := (H24.rwReads (k := 1) rfl).lenL intE
    have hln29 : ([(sgN (kpB x) (kpB y))] ++ [x.id - y.id]).length = 1 + 1 := by simp only [List.length_append, List.length_cons, List.length_nil] <;> omega
    refine l_of (s_appBn (m := 1) (l := [(sgN (kpB x) (kpB y))]) (l2 := [x.id - y.id]) intE H24 1 (j0 := 0) rfl rfl ⟨rfl, Nat.le_refl _⟩ (wt0 rfl) rfl rfl rfl rfl rfl rfl Tryz.underlying24 inf3 rfl (by decide) (by omega) ?_)
    intro p25 c26 wq27 H28
    replace H28 : S wq27 [Ob g21 (.cells #[.int .i64 (x.id - y.id)] 3 (0, 0)), Rw 3 1 p25 (([(sgN (kpB x) (kpB y))] ++ [x.id - y.id]).length) c26 (fl intL ([(sgN (kpB x) (kpB y))] ++ [x.id - y.id])), Ob g4 (.cells #[.int .i64 (y.id), .bool y.intr, .bool y.chk, .int .i64 (y.frm), .int .i64 (y.to), .int .i64 (y.lt), .int .i64 (y.since), .bool y.snb, .bool y.now, .bool y.seed] 30 (0, 0)), Ob g1 (.cells #[.int .i64 (x.id), .bool x.intr, .bool x.chk, .int .i64 (x.frm), .int .i64 (x.to), .int .i64 (x.lt), .int .i64 (x.since), .bool x.snb, .bool x.now, .bool x.seed] 30 (0, 0)), Old w no] := H28
    refine l_of (s_val (v := .int .i64 2) (wt0 rfl) rfl rfl (x_lenl rfl rfl Tryz.underlying24) ?_)
    refine l_of (s_val (v := .int .i64 0) (wt0 rfl) rfl rfl (x_move rfl rfl) ?_)
    refine g_nil ?_
    refine g_then ?_
    refine g_weak [(83, .slice p25 (([(sgN (kpB x) (kpB y))] ++ [x.id - y.id]).length) c26), (84, .int .i64 2), (85, .int .i64 0)] ⟨rfl, rfl, rfl, trivial⟩ ?_
    refine g_block ?_
    refine g_rounds 4 ?_
    refine g_roundU ?_
    refine g_seq ?_
    refine g_region ?_
    refine l_of (s_val (v := .bool (decide ((0 : Int) < 2))) (wt0 rfl) rfl rfl (x_bin rfl rfl rfl b_lss) ?_)
    refine g_nil ?_
    refine g_then ?_
    refine g_seq ?_
    refine g_cond_t rfl (by decide) ?_
    refine g_skip ?_
    refine g_then ?_
    refine g_seq ?_
    refine g_block ?_
    refine g_seq ?_
    refine g_region ?_
    refine l_of (s_val (v := .pointer ((p25).map fun q => q.add (0 * 1))) (wt0 rfl) rfl rfl (x_idxR 0 (H28.rwReads (k := 1) rfl) rfl rfl rfl Tryz.underlying24 sz3 (by omega)) ?_)
    refine l_of (s_val (v := .int .i64 ((sgN (kpB x) (kpB y)))) (wt0 rfl) rfl rfl (x_loadR1 0 (H28.rwReads (k := 1) rfl) (by omega) rfl rfl Tryz.underlying3 rfl (intE.flAt1 rfl rfl)) ?_)
    refine l_of (s_val (v := .int .i64 ((sgN (kpB x) (kpB y)))) (wt0 rfl) rfl rfl (x_assign rfl rfl) ?_)
    refine g_nil ?_
    refine g_then ?_
    refine g_seq ?_
    refine g_region ?_
    refine l_of (s_val (v := .int .i64 ((sgN (kpB x) (kpB y)))) (wt0 rfl) rfl rfl (x_move rfl rfl) ?_)
    refine l_of (s_val (v := .bool (!decide (((sgN (kpB x) (kpB y)) : Int) = 0))) (wt0 rfl) rfl rfl (x_bin rfl rfl rfl b_neq) ?_)
    refine g_nil ?_
    refine g_then ?_
    by_cases hb30 : ((sgN (kpB x) (kpB y)) : Int) = 0
    · skip
      refine g_cond_f rfl (nf hb30) ?_
      refine g_skip ?_
      refine g_in ?_
      refine g_then ?_
      refine g_region ?_
      refine l_of (s_val (v := .int .i64 1) (wt0 rfl) rfl rfl (x_bin rfl rfl rfl (b_add (r := 1) (by decide))) ?_)
      refine l_of (s_val (v := .int .i64 1) (wt0 rfl) rfl rfl (x_move rfl rfl) ?_)
      refine g_nil ?_
      refine g_then ?_
      refine g_roundU ?_
      refine g_seq ?_
      refine g_region ?_
      refine l_of (s_val (v := .bool (decide ((1 : Int) < 2))) (wt0 rfl) rfl rfl (x_bin rfl rfl rfl b_lss) ?_)
      refine g_nil ?_
      refine g_then ?_
      refine g_seq ?_
      refine g_cond_t rfl (by decide) ?_
      refine g_skip ?_
      refine g_then ?_
      refine g_seq ?_
      refine g_block ?_
      refine g_seq ?_
      refine g_region ?_
      refine l_of (s_val (v := .pointer ((p25).map fun q => q.add (1 * 1))) (wt0 rfl) rfl rfl (x_idxR 1 (H28.rwReads (k := 1) rfl) rfl rfl rfl Tryz.underlying24 sz3 (by omega)) ?_)
      refine l_of (s_val (v := .int .i64 ((x.id - y.id))) (wt0 rfl) rfl rfl (x_loadR1 1 (H28.rwReads (k := 1) rfl) (by omega) rfl rfl Tryz.underlying3 rfl (intE.flAt1 rfl rfl)) ?_)
      refine l_of (s_val (v := .int .i64 ((x.id - y.id))) (wt0 rfl) rfl rfl (x_assign rfl rfl) ?_)
      refine g_nil ?_
      refine g_then ?_
      refine g_seq ?_
      refine g_region ?_
      refine l_of (s_val (v := .int .i64 ((x.id - y.id))) (wt0 rfl) rfl rfl (x_move rfl rfl) ?_)
      refine l_of (s_val (v := .bool (!decide (((x.id - y.id) : Int) = 0))) (wt0 rfl) rfl rfl (x_bin rfl rfl rfl b_neq) ?_)
      refine g_nil ?_
      refine g_then ?_
      by_cases hb31 : ((x.id - y.id) : Int) = 0
      · skip
        refine g_cond_f rfl (nf hb31) ?_
        refine g_skip ?_
        refine g_in ?_
        refine g_then ?_
        refine g_region ?_
        refine l_of (s_val (v := .int .i64 2) (wt0 rfl) rfl rfl (x_bin rfl rfl rfl (b_add (r := 2) (by decide))) ?_)
        refine l_of (s_val (v := .int .i64 2) (wt0 rfl) rfl rfl (x_move rfl rfl) ?_)
        refine g_nil ?_
        refine g_then ?_
        refine g_roundU ?_
        refine g_seq ?_
        refine g_region ?_
        refine l_of (s_val (v := .bool (decide ((2 : Int) < 2))) (wt0 rfl) rfl rfl (x_bin rfl rfl rfl b_lss) ?_)
        refine g_nil ?_
        refine g_then ?_
        refine g_seq ?_
        refine g_cond_f rfl (by decide) ?_
        refine g_exit ?_
        refine g_then_exit ?_
        refine g_then_exit ?_
        refine g_in_hit ?_
        refine g_then ?_
        refine g_seq ?_
        refine g_region ?_
        refine l_of (s_val (v := .int .i64 0) (wt0 rfl) rfl rfl (x_assign rfl rfl) ?_)
        refine g_nil ?_
        refine g_then ?_
        refine g_ret ?_
        refine fin_ret [.tmp 6] [.int .i64 0] rfl ⟨rfl, trivial⟩ ?_
        have hv : c3 x y = 0 := by
          unfold c3
          rcases st_cases x with ⟨hb1, hs1, hl1⟩ | ⟨hb1, hs1, hl1⟩ <;> rcases st_cases y with ⟨hb2, hs2, hl2⟩ | ⟨hb2, hs2, hl2⟩ <;> rw [hb1] at hkx <;> rw [hb2] at hky <;> rw [hs1, hs2] at hsg <;> rw [hs1, hs2, hl1, hl2]
          repeat' split
          all_goals first | omega | (simp only [hkx, hky, Bool.true_eq_false, Bool.false_eq_true] at *)
        exact ⟨by rw [hv]; rfl, H28.mask [false, false, false, false, true]⟩
      · skip
        refine g_cond_t rfl (nt hb31) ?_
        refine g_seq ?_
        refine g_region ?_
        refine l_of (s_val (v := .int .i64 ((x.id - y.id))) (wt0 rfl) rfl rfl (x_move rfl rfl) ?_)
        refine l_of (s_val (v := .int .i64 ((x.id - y.id))) (wt0 rfl) rfl rfl (x_assign rfl rfl) ?_)
        refine g_nil ?_
        refine g_then ?_
        refine g_ret ?_
        refine g_in_ret ?_
        refine g_then_ret ?_
        refine g_then_ret ?_
        refine g_in_ret ?_
        refine g_then_ret ?_
        refine fin_ret [.tmp 6] [.int .i64 ((x.id - y.id))] rfl ⟨rfl, trivial⟩ ?_
        have hv : c3 x y = (x.id - y.id) := by
          unfold c3
          rcases st_cases x with ⟨hb1, hs1, hl1⟩ | ⟨hb1, hs1, hl1⟩ <;> rcases st_cases y with ⟨hb2, hs2, hl2⟩ | ⟨hb2, hs2, hl2⟩ <;> rw [hb1] at hkx <;> rw [hb2] at hky <;> rw [hs1, hs2] at hsg <;> rw [hs1, hs2, hl1, hl2]
          repeat' split
          all_goals first | omega | (simp only [hkx, hky, Bool.true_eq_false, Bool.false_eq_true] at *)
        exact ⟨by rw [hv]; rfl, H28.mask [false, false, false, false, true]⟩
    · skip
      refine g_cond_t rfl (nt hb30) ?_
      refine g_seq ?_
      refine g_region ?_
      refine l_of (s_val (v := .int .i64 ((sgN (kpB x) (kpB y)))) (wt0 rfl) rfl rfl (x_move rfl rfl) ?_)
      refine l_of (s_val (v := .int .i64 ((sgN (kpB x) (kpB y)))) (wt0 rfl) rfl rfl (x_assign rfl rfl) ?_)
      refine g_nil ?_
      refine g_then ?_
      refine g_ret ?_
      refine g_in_ret ?_
      refine g_then_ret ?_
      refine g_then_ret ?_
      refine g_in_ret ?_
      refine g_then_ret ?_
      refine fin_ret [.tmp 6] [.int .i64 ((sgN (kpB x) (kpB y)))] rfl ⟨rfl, trivial⟩ ?_
      have hv : c3 x y = (sgN (kpB x) (kpB y)) := by
        unfold c3
        rcases st_cases x with ⟨hb1, hs1, hl1⟩ | ⟨hb1, hs1, hl1⟩ <;> rcases st_cases y with ⟨hb2, hs2, hl2⟩ | ⟨hb2, hs2, hl2⟩ <;> rw [hb1] at hkx <;> rw [hb2] at hky <;> rw [hs1, hs2] at hsg <;> rw [hs1, hs2, hl1, hl2]
        repeat' split
        all_goals first | omega | (simp only [hkx, hky, Bool.true_eq_false, Bool.false_eq_true] at *)
      exact ⟨by rw [hv]; rfl, H28.mask [false, false, false, false, true]⟩
  · skip
    refine l_of (s_val (v := .agg #[.int .i64 (y.id), .bool y.intr, .bool y.chk, .int .i64 (y.frm), .int .i64 (y.to), .int .i64 (y.lt), .int .i64 (y.since), .bool y.snb, .bool y.now, .bool y.seed]) (wt1 rfl rfl rfl rfl (neg_of hb20)) rfl rfl (x_loadA H19 1 rfl rfl Tryz.underlying30 rfl sz30 rfl rfl rfl) ?_)
    refine l_of (s_call (wt1 rfl rfl rfl rfl (neg_of hb20)) (x_call' rfl rfl cl69) (keeps_r y _) ?_)
    rintro _ wq32 ⟨rfl, H33⟩
    replace H33 : S wq32 [Ob g15 (.cells #[.int .i64 ((sgN (kpB x) (kpB y)))] 3 (0, 0)), Ob g4 (.cells #[.int .i64 (y.id), .bool y.intr, .bool y.chk, .int .i64 (y.frm), .int .i64 (y.to), .int .i64 (y.lt), .int .i64 (y.since), .bool y.snb, .bool y.now, .bool y.seed] 30 (0, 0)), Ob g1 (.cells #[.int .i64 (x.id), .bool x.intr, .bool x.chk, .int .i64 (x.frm), .int .i64 (x.to), .int .i64 (x.lt), .int .i64 (x.since), .bool x.snb, .bool x.now, .bool x.seed] 30 (0, 0)), Old w no] := H19.absorb (new := []) H33
    refine b_ret rfl rfl ?_
    refine l_of (s_val (v := .bool (!((kpB y)))) (wt1 rfl rfl rfl rfl (neg_of hb20)) rfl rfl (x_not (b := (kpB y)) rfl rfl) ?_)
    refine l_of (s_val (v := .bool (!((kpB y)))) (wt0 rfl) rfl rfl (x_pick_t rfl rfl (neg_of hb20) rfl) ?_)
    refine g_nil ?_
    refine g_then ?_
    rcases Bool.eq_false_or_eq_true ((kpB y)) with hb34 | hb34
    · skip
      refine g_cond_f rfl (neg_of hb34) ?_
      refine g_skip ?_
      refine g_in ?_
      refine g_then ?_
      refine g_seq ?_
      refine g_seq ?_
      refine g_region ?_
      refine l_of (s_val (v := .slice (some ⟨g15, 0, none⟩) (1) (1)) (wt0 rfl) rfl rfl (x_move rfl rfl) ?_)
      refine l_of (s_val (v := .pointer (some ⟨g1, 0, none⟩)) (wt0 rfl) rfl rfl (x_fieldAddr rfl rfl fo30_0 rfl) ?_)
      refine l_of (s_val (v := .int .i64 (x.id)) (wt0 rfl) rfl rfl (x_load1 H33 2 rfl rfl Tryz.underlying3 rfl rfl rfl) ?_)
      refine l_of (s_val (v := .pointer (some ⟨g4, 0, none⟩)) (wt0 rfl) rfl rfl (x_fieldAddr rfl rfl fo30_0 rfl) ?_)
      refine l_of (s_val (v := .int .i64 (y.id)) (wt0 rfl) rfl rfl (x_load1 H33 1 rfl rfl Tryz.underlying3 rfl rfl rfl) ?_)
      refine l_of (s_val (v := .int .i64 (x.id - y.id)) (wt0 rfl) rfl rfl (x_bin rfl rfl rfl (b_sub (w64 (by omega)))) ?_)
      refine l_of (s_buildSlice H33 (wt0 rfl) rfl rfl rfl (vs := [.int .i64 (x.id - y.id)]) rfl Tryz.underlying24 sz3 ze3 rfl rfl (cells := #[.int .i64 (x.id - y.id)]) (by kernel_rfl) ?_)
      intro g35 wq36 H37
      have H38 : S wq36 [Ob g35 (.cells #[.int .i64 (x.id - y.id)] 3 (0, 0)), Rw 3 1 (some ⟨g15, 0, none⟩) 1 1 (fl intL ([(sgN (kpB x) (kpB y))])), Ob g4 (.cells #[.int .i64 (y.id), .bool y.intr, .bool y.chk, .int .i64 (y.frm), .int .i64 (y.to), .int .i64 (y.lt), .int .i64 (y.since), .bool y.snb, .bool y.now, .bool y.seed] 30 (0, 0)), Ob g1 (.cells #[.int .i64 (x.id), .bool x.intr, .bool x.chk, .int .i64 (x.frm), .int .i64 (x.to), .int .i64 (x.lt), .int .i64 (x.since), .bool x.snb, .bool x.now, .bool x.seed] 30 (0, 0)), Old w no] := S.obFl intE H37 (k := 1) rfl rfl (by decide) rfl
      have hln43a := (H38.rwReads (k := 1) rfl).lenL intE
      have hln43 : ([(sgN (kpB x) (kpB y))] ++ [x.id - y.id]).length = 1 + 1 := by simp only [List.length_append, List.length_cons, List.length_nil] <;> omega
      refine l_of (s_appBn (m := 1) (l := [(sgN (kpB x) (kpB y))]) (l2 := [x.id - y.id]) intE H38 1 (j0 := 0) rfl rfl ⟨rfl, Nat.le_refl _⟩ (wt0 rfl) rfl rfl rfl rfl rfl rfl Tryz.underlying24 inf3 rfl (by decide) (by omega) ?_)
      intro p39 c40 wq41 H42
      replace H42 : S wq41 [Ob g35 (.cells #[.int .i64 (x.id - y.id)] 3 (0, 0)), Rw 3 1 p39 (([(sgN (kpB x) (kpB y))] ++ [x.id - y.id]).length) c40 (fl intL ([(sgN (kpB x) (kpB y))] ++ [x.id - y.id])), Ob g4 (.cells #[.int .i64 (y.id), .bool y.intr, .bool y.chk, .int .i64 (y.frm), .int .i64 (y.to), .int .i64 (y.lt), .int .i64 (y.since), .bool y.snb, .bool y.now, .bool y.seed] 30 (0, 0)), Ob g1 (.cells #[.int .i64 (x.id), .bool x.intr, .bool x.chk, .int .i64 (x.frm), .int .i64 (x.to), .int .i64 (x.lt), .int .i64 (x.since), .bool x.snb, .bool x.now, .bool x.seed] 30 (0, 0)), Old w no] := H42
      refine l_of (s_val (v := .int .i64 2) (wt0 rfl) rfl rfl (x_lenl rfl rfl Tryz.underlying24) ?_)
      refine l_of (s_val (v := .int .i64 0) (wt0 rfl) rfl rfl (x_move rfl rfl) ?_)
      refine g_nil ?_
      refine g_then ?_
      refine g_weak [(83, .slice p39 (([(sgN (kpB x) (kpB y))] ++ [x.id - y.id]).length) c40), (84, .int .i64 2), (85, .int .i64 0)] ⟨rfl, rfl, rfl, trivial⟩ ?_
      refine g_block ?_
      refine g_rounds 4 ?_
      refine g_roundU ?_
      refine g_seq ?_
      refine g_region ?_
      refine l_of (s_val (v := .bool (decide ((0 : Int) < 2))) (wt0 rfl) rfl rfl (x_bin rfl rfl rfl b_lss) ?_)
      refine g_nil ?_
      refine g_then ?_
      refine g_seq ?_
      refine g_cond_t rfl (by decide) ?_
      refine g_skip ?_
      refine g_then ?_
      refine g_seq ?_
      refine g_block ?_
      refine g_seq ?_
      refine g_region ?_
      refine l_of (s_val (v := .pointer ((p39).map fun q => q.add (0 * 1))) (wt0 rfl) rfl rfl (x_idxR 0 (H42.rwReads (k := 1) rfl) rfl rfl rfl Tryz.underlying24 sz3 (by omega)) ?_)
      refine l_of (s_val (v := .int .i64 ((sgN (kpB x) (kpB y)))) (wt0 rfl) rfl rfl (x_loadR1 0 (H42.rwReads (k := 1) rfl) (by omega) rfl rfl Tryz.underlying3 rfl (intE.flAt1 rfl rfl)) ?_)
      refine l_of (s_val (v := .int .i64 ((sgN (kpB x) (kpB y)))) (wt0 rfl) rfl rfl (x_assign rfl rfl) ?_)
      refine g_nil ?_
      refine g_then ?_
      refine g_seq ?_
      refine g_region ?_
      refine l_of (s_val (v := .int .i64 ((sgN (kpB x) (kpB y)))) (wt0 rfl) rfl rfl (x_move rfl rfl) ?_)
      refine l_of (s_val (v := .bool (!decide (((sgN (kpB x) (kpB y)) : Int) = 0))) (wt0 rfl) rfl rfl (x_bin rfl rfl rfl b_neq) ?_)
      refine g_nil ?_
      refine g_then ?_
      by_cases hb44 : ((sgN (kpB x) (kpB y)) : Int) = 0
      · skip
        refine g_cond_f rfl (nf hb44) ?_
        refine g_skip ?_
        refine g_in ?_
        refine g_then ?_
        refine g_region ?_
        refine l_of (s_val (v := .int .i64 1) (wt0 rfl) rfl rfl (x_bin rfl rfl rfl (b_add (r := 1) (by decide))) ?_)
        refine l_of (s_val (v := .int .i64 1) (wt0 rfl) rfl rfl (x_move rfl rfl) ?_)
        refine g_nil ?_
        refine g_then ?_
        refine g_roundU ?_
        refine g_seq ?_
        refine g_region ?_
        refine l_of (s_val (v := .bool (decide ((1 : Int) < 2))) (wt0 rfl) rfl rfl (x_bin rfl rfl rfl b_lss) ?_)
        refine g_nil ?_
        refine g_then ?_
        refine g_seq ?_
        refine g_cond_t rfl (by decide) ?_
        refine g_skip ?_
        refine g_then ?_
        refine g_seq ?_
        refine g_block ?_
        refine g_seq ?_
        refine g_region ?_
        refine l_of (s_val (v := .pointer ((p39).map fun q => q.add (1 * 1))) (wt0 rfl) rfl rfl (x_idxR 1 (H42.rwReads (k := 1) rfl) rfl rfl rfl Tryz.underlying24 sz3 (by omega)) ?_)
        refine l_of (s_val (v := .int .i64 ((x.id - y.id))) (wt0 rfl) rfl rfl (x_loadR1 1 (H42.rwReads (k := 1) rfl) (by omega) rfl rfl Tryz.underlying3 rfl (intE.flAt1 rfl rfl)) ?_)
        refine l_of (s_val (v := .int .i64 ((x.id - y.id))) (wt0 rfl) rfl rfl (x_assign rfl rfl) ?_)
        refine g_nil ?_
        refine g_then ?_
        refine g_seq ?_
        refine g_region ?_
        refine l_of (s_val (v := .int .i64 ((x.id - y.id))) (wt0 rfl) rfl rfl (x_move rfl rfl) ?_)
        refine l_of (s_val (v := .bool (!decide (((x.id - y.id) : Int) = 0))) (wt0 rfl) rfl rfl (x_bin rfl rfl rfl b_neq) ?_)
        refine g_nil ?_
        refine g_then ?_
        by_cases hb45 : ((x.id - y.id) : Int) = 0
        · skip
          refine g_cond_f rfl (nf hb45) ?_
          refine g_skip ?_
          refine g_in ?_
          refine g_then ?_
          refine g_region ?_
          refine l_of (s_val (v := .int .i64 2) (wt0 rfl) rfl rfl (x_bin rfl rfl rfl (b_add (r := 2) (by decide))) ?_)
          refine l_of (s_val (v := .int .i64 2) (wt0 rfl) rfl rfl (x_move rfl rfl) ?_)
          refine g_nil ?_
          refine g_then ?_
          refine g_roundU ?_
          refine g_seq ?_
          refine g_region ?_
          refine l_of (s_val (v := .bool (decide ((2 : Int) < 2))) (wt0 rfl) rfl rfl (x_bin rfl rfl rfl b_lss) ?_)
          refine g_nil ?_
          refine g_then ?_
          refine g_seq ?_
          refine g_cond_f rfl (by decide) ?_
          refine g_exit ?_
          refine g_then_exit ?_
          refine g_then_exit ?_
          refine g_in_hit ?_
          refine g_then ?_
          refine g_seq ?_
          refine g_region ?_
          refine l_of (s_val (v := .int .i64 0) (wt0 rfl) rfl rfl (x_assign rfl rfl) ?_)
          refine g_nil ?_
          refine g_then ?_
          refine g_ret ?_
          refine fin_ret [.tmp 6] [.int .i64 0] rfl ⟨rfl, trivial⟩ ?_
          have hv : c3 x y = 0 := by
            unfold c3
            rcases st_cases x with ⟨hb1, hs1, hl1⟩ | ⟨hb1, hs1, hl1⟩ <;> rcases st_cases y with ⟨hb2, hs2, hl2⟩ | ⟨hb2, hs2, hl2⟩ <;> rw [hb1] at hkx <;> rw [hb2] at hky <;> rw [hs1, hs2] at hsg <;> rw [hs1, hs2, hl1, hl2]
            repeat' split
            all_goals first | omega | (simp only [hkx, hky, Bool.true_eq_false, Bool.false_eq_true] at *)
          exact ⟨by rw [hv]; rfl, H42.mask [false, false, false, false, true]⟩
        · skip
          refine g_cond_t rfl (nt hb45) ?_
          refine g_seq ?_
          refine g_region ?_
          refine l_of (s_val (v := .int .i64 ((x.id - y.id))) (wt0 rfl) rfl rfl (x_move rfl rfl) ?_)
          refine l_of (s_val (v := .int .i64 ((x.id - y.id))) (wt0 rfl) rfl rfl (x_assign rfl rfl) ?_)
          refine g_nil ?_
          refine g_then ?_
          refine g_ret ?_
          refine g_in_ret ?_
          refine g_then_ret ?_
          refine g_then_ret ?_
          refine g_in_ret ?_
          refine g_then_ret ?_
          refine fin_ret [.tmp 6] [.int .i64 ((x.id - y.id))] rfl ⟨rfl, trivial⟩ ?_
          have hv : c3 x y = (x.id - y.id) := by
            unfold c3
            rcases st_cases x with ⟨hb1, hs1, hl1⟩ | ⟨hb1, hs1, hl1⟩ <;> rcases st_cases y with ⟨hb2, hs2, hl2⟩ | ⟨hb2, hs2, hl2⟩ <;> rw [hb1] at hkx <;> rw [hb2] at hky <;> rw [hs1, hs2] at hsg <;> rw [hs1, hs2, hl1, hl2]
            repeat' split
            all_goals first | omega | (simp only [hkx, hky, Bool.true_eq_false, Bool.false_eq_true] at *)
          exact ⟨by rw [hv]; rfl, H42.mask [false, false, false, false, true]⟩
      · skip
        refine g_cond_t rfl (nt hb44) ?_
        refine g_seq ?_
        refine g_region ?_
        refine l_of (s_val (v := .int .i64 ((sgN (kpB x) (kpB y)))) (wt0 rfl) rfl rfl (x_move rfl rfl) ?_)
        refine l_of (s_val (v := .int .i64 ((sgN (kpB x) (kpB y)))) (wt0 rfl) rfl rfl (x_assign rfl rfl) ?_)
        refine g_nil ?_
        refine g_then ?_
        refine g_ret ?_
        refine g_in_ret ?_
        refine g_then_ret ?_
        refine g_then_ret ?_
        refine g_in_ret ?_
        refine g_then_ret ?_
        refine fin_ret [.tmp 6] [.int .i64 ((sgN (kpB x) (kpB y)))] rfl ⟨rfl, trivial⟩ ?_
        have hv : c3 x y = (sgN (kpB x) (kpB y)) := by
          unfold c3
          rcases st_cases x with ⟨hb1, hs1, hl1⟩ | ⟨hb1, hs1, hl1⟩ <;> rcases st_cases y with ⟨hb2, hs2, hl2⟩ | ⟨hb2, hs2, hl2⟩ <;> rw [hb1] at hkx <;> rw [hb2] at hky <;> rw [hs1, hs2] at hsg <;> rw [hs1, hs2, hl1, hl2]
          repeat' split
          all_goals first | omega | (simp only [hkx, hky, Bool.true_eq_false, Bool.false_eq_true] at *)
        exact ⟨by rw [hv]; rfl, H42.mask [false, false, false, false, true]⟩
    · skip
      refine g_cond_t rfl (neg_of hb34) ?_
      refine g_region ?_
      refine l_of (s_val (v := .slice (some ⟨g15, 0, none⟩) (1) (1)) (wt0 rfl) rfl rfl (x_move rfl rfl) ?_)
      refine l_of (s_val (v := .pointer (some ⟨g1, 5, none⟩)) (wt0 rfl) rfl rfl (x_fieldAddr rfl rfl fo30_5 rfl) ?_)
      refine l_of (s_val (v := .int .i64 (x.lt)) (wt0 rfl) rfl rfl (x_load1 H33 2 rfl rfl Tryz.underlying3 rfl rfl rfl) ?_)
      refine l_of (s_val (v := .pointer (some ⟨g4, 5, none⟩)) (wt0 rfl) rfl rfl (x_fieldAddr rfl rfl fo30_5 rfl) ?_)
      refine l_of (s_val (v := .int .i64 (y.lt)) (wt0 rfl) rfl rfl (x_load1 H33 1 rfl rfl Tryz.underlying3 rfl rfl rfl) ?_)
      refine l_of (s_val (v := .int .i64 (x.lt - y.lt)) (wt0 rfl) rfl rfl (x_bin rfl rfl rfl (b_sub (w64 (by omega)))) ?_)
      refine l_of (s_buildSlice H33 (wt0 rfl) rfl rfl rfl (vs := [.int .i64 (x.lt - y.lt)]) rfl Tryz.underlying24 sz3 ze3 rfl rfl (cells := #[.int .i64 (x.lt - y.lt)]) (by kernel_rfl) ?_)
      intro g46 wq47 H48
      have H49 : S wq47 [Ob g46 (.cells #[.int .i64 (x.lt - y.lt)] 3 (0, 0)), Rw 3 1 (some ⟨g15, 0, none⟩) 1 1 (fl intL ([(sgN (kpB x) (kpB y))])), Ob g4 (.cells #[.int .i64 (y.id), .bool y.intr, .bool y.chk, .int .i64 (y.frm), .int .i64 (y.to), .int .i64 (y.lt), .int .i64 (y.since), .bool y.snb, .bool y.now, .bool y.seed] 30 (0, 0)), Ob g1 (.cells #[.int .i64 (x.id), .bool x.intr, .bool x.chk, .int .i64 (x.frm), .int .i64 (x.to), .int .i64 (x.lt), .int .i64 (x.since), .bool x.snb, .bool x.now, .bool x.seed] 30 (0, 0)), Old w no] := S.obFl intE H48 (k := 1) rfl rfl (by decide) rfl
      have hln54a := (H49.rwReads (k := 1) rfl).lenL intE
      have hln54 : ([(sgN (kpB x) (kpB y))] ++ [x.lt - y.lt]).length = 1 + 1 := by simp only [List.length_append, List.length_cons, List.length_nil] <;> omega
      refine l_of (s_appBn (m := 1) (l := [(sgN (kpB x) (kpB y))]) (l2 := [x.lt - y.lt]) intE H49 1 (j0 := 0) rfl rfl ⟨rfl, Nat.le_refl _⟩ (wt0 rfl) rfl rfl rfl rfl rfl rfl Tryz.underlying24 inf3 rfl (by decide) (by omega) ?_)
      intro p50 c51 wq52 H53
      replace H53 : S wq52 [Ob g46 (.cells #[.int .i64 (x.lt - y.lt)] 3 (0, 0)), Rw 3 1 p50 (([(sgN (kpB x) (kpB y))] ++ [x.lt - y.lt]).length) c51 (fl intL ([(sgN (kpB x) (kpB y))] ++ [x.lt - y.lt])), Ob g4 (.cells #[.int .i64 (y.id), .bool y.intr, .bool y.chk, .int .i64 (y.frm), .int .i64 (y.to), .int .i64 (y.lt), .int .i64 (y.since), .bool y.snb, .bool y.now, .bool y.seed] 30 (0, 0)), Ob g1 (.cells #[.int .i64 (x.id), .bool x.intr, .bool x.chk, .int .i64 (x.frm), .int .i64 (x.to), .int .i64 (x.lt), .int .i64 (x.since), .bool x.snb, .bool x.now, .bool x.seed] 30 (0, 0)), Old w no] := H53
      refine l_of (s_val (v := .slice p50 (([(sgN (kpB x) (kpB y))] ++ [x.lt - y.lt]).length) c51) (wt0 rfl) rfl rfl (x_assign rfl rfl) ?_)
      refine g_nil ?_
      refine g_in ?_
      refine g_then ?_
      refine g_weak [(4, .pointer (some ⟨g1, 0, none⟩)), (5, .pointer (some ⟨g4, 0, none⟩)), (7, .slice p50 (([(sgN (kpB x) (kpB y))] ++ [x.lt - y.lt]).length) c51)] ⟨rfl, rfl, rfl, trivial⟩ ?_
      refine g_seq ?_
      refine g_seq ?_
      refine g_region ?_
      refine l_of (s_val (v := .slice p50 (([(sgN (kpB x) (kpB y))] ++ [x.lt - y.lt]).length) c51) (wt0 rfl) rfl rfl (x_move rfl rfl) ?_)
      refine l_of (s_val (v := .pointer (some ⟨g1, 0, none⟩)) (wt0 rfl) rfl rfl (x_fieldAddr rfl rfl fo30_0 rfl) ?_)
      refine l_of (s_val (v := .int .i64 (x.id)) (wt0 rfl) rfl rfl (x_load1 H53 3 rfl rfl Tryz.underlying3 rfl rfl rfl) ?_)
      refine l_of (s_val (v := .pointer (some ⟨g4, 0, none⟩)) (wt0 rfl) rfl rfl (x_fieldAddr rfl rfl fo30_0 rfl) ?_)
      refine l_of (s_val (v := .int .i64 (y.id)) (wt0 rfl) rfl rfl (x_load1 H53 2 rfl rfl Tryz.underlying3 rfl rfl rfl) ?_)
      refine l_of (s_val (v := .int .i64 (x.id - y.id)) (wt0 rfl) rfl rfl (x_bin rfl rfl rfl (b_sub (w64 (by omega)))) ?_)
      refine l_of (s_buildSlice H53 (wt0 rfl) rfl rfl rfl (vs := [.int .i64 (x.id - y.id)]) rfl Tryz.underlying24 sz3 ze3 rfl rfl (cells := #[.int .i64 (x.id - y.id)]) (by kernel_rfl) ?_)
      intro g55 wq56 H57
      have hln62a := (H57.rwReads (k := 2) rfl).lenL intE
      have hln62 : (([(sgN (kpB x) (kpB y))] ++ [x.lt - y.lt]) ++ [x.id - y.id]).length = (([(sgN (kpB x) (kpB y))] ++ [x.lt - y.lt]).length) + 1 := by simp only [List.length_append, List.length_cons, List.length_nil] <;> omega
      refine l_of (s_appBn (m := 1) (l := ([(sgN (kpB x) (kpB y))] ++ [x.lt - y.lt])) (l2 := [x.id - y.id]) intE H57 2 (j0 := 0) rfl rfl ⟨rfl, Nat.le_refl _⟩ (wt0 rfl) rfl rfl rfl rfl rfl rfl Tryz.underlying24 inf3 rfl (by decide) (by omega) ?_)
      intro p58 c59 wq60 H61
      replace H61 : S wq60 [Ob g55 (.cells #[.int .i64 (x.id - y.id)] 3 (0, 0)), Ob g46 (.cells #[.int .i64 (x.lt - y.lt)] 3 (0, 0)), Rw 3 1 p58 ((([(sgN (kpB x) (kpB y))] ++ [x.lt - y.lt]) ++ [x.id - y.id]).length) c59 (fl intL (([(sgN (kpB x) (kpB y))] ++ [x.lt - y.lt]) ++ [x.id - y.id])), Ob g4 (.cells #[.int .i64 (y.id), .bool y.intr, .bool y.chk, .int .i64 (y.frm), .int .i64 (y.to), .int .i64 (y.lt), .int .i64 (y.since), .bool y.snb, .bool y.now, .bool y.seed] 30 (0, 0)), Ob g1 (.cells #[.int .i64 (x.id), .bool x.intr, .bool x.chk, .int .i64 (x.frm), .int .i64 (x.to), .int .i64 (x.lt), .int .i64 (x.since), .bool x.snb, .bool x.now, .bool x.seed] 30 (0, 0)), Old w no] := H61
      refine l_of (s_val (v := .int .i64 3) (wt0 rfl) rfl rfl (x_lenl rfl rfl Tryz.underlying24) ?_)
      refine l_of (s_val (v := .int .i64 0) (wt0 rfl) rfl rfl (x_move rfl rfl) ?_)
      refine g_nil ?_
      refine g_then ?_
      refine g_block ?_
      refine g_rounds 4 ?_
      refine g_roundU ?_
      refine g_seq ?_
      refine g_region ?_
      refine l_of (s_val (v := .bool (decide ((0 : Int) < 3))) (wt0 rfl) rfl rfl (x_bin rfl rfl rfl b_lss) ?_)
      refine g_nil ?_
      refine g_then ?_
      refine g_seq ?_
      refine g_cond_t rfl (by decide) ?_
      refine g_skip ?_
      refine g_then ?_
      refine g_seq ?_
      refine g_block ?_
      refine g_seq ?_
      refine g_region ?_
      refine l_of (s_val (v := .pointer ((p58).map fun q => q.add (0 * 1))) (wt0 rfl) rfl rfl (x_idxR 0 (H61.rwReads (k := 2) rfl) rfl rfl rfl Tryz.underlying24 sz3 (by omega)) ?_)
      refine l_of (s_val (v := .int .i64 ((sgN (kpB x) (kpB y)))) (wt0 rfl) rfl rfl (x_loadR1 0 (H61.rwReads (k := 2) rfl) (by omega) rfl rfl Tryz.underlying3 rfl (intE.flAt1 rfl rfl)) ?_)
      refine l_of (s_val (v := .int .i64 ((sgN (kpB x) (kpB y)))) (wt0 rfl) rfl rfl (x_assign rfl rfl) ?_)
      refine g_nil ?_
      refine g_then ?_
      refine g_weak [(9, .int .i64 ((sgN (kpB x) (kpB y)))), (83, .slice p58 ((([(sgN (kpB x) (kpB y))] ++ [x.lt - y.lt]) ++ [x.id - y.id]).length) c59), (84, .int .i64 3), (85, .int .i64 0)] ⟨rfl, rfl, rfl, rfl, trivial⟩ ?_
      refine g_seq ?_
      refine g_region ?_
      refine l_of (s_val (v := .int .i64 ((sgN (kpB x) (kpB y)))) (wt0 rfl) rfl rfl (x_move rfl rfl) ?_)
      refine l_of (s_val (v := .bool (!decide (((sgN (kpB x) (kpB y)) : Int) = 0))) (wt0 rfl) rfl rfl (x_bin rfl rfl rfl b_neq) ?_)
      refine g_nil ?_
      refine g_then ?_
      by_cases hb63 : ((sgN (kpB x) (kpB y)) : Int) = 0
      · skip
        refine g_cond_f rfl (nf hb63) ?_
        refine g_skip ?_
        refine g_in ?_
        refine g_then ?_
        refine g_region ?_
        refine l_of (s_val (v := .int .i64 1) (wt0 rfl) rfl rfl (x_bin rfl rfl rfl (b_add (r := 1) (by decide))) ?_)
        refine l_of (s_val (v := .int .i64 1) (wt0 rfl) rfl rfl (x_move rfl rfl) ?_)
        refine g_nil ?_
        refine g_then ?_
        refine g_roundU ?_
        refine g_seq ?_
        refine g_region ?_
        refine l_of (s_val (v := .bool (decide ((1 : Int) < 3))) (wt0 rfl) rfl rfl (x_bin rfl rfl rfl b_lss) ?_)
        refine g_nil ?_
        refine g_then ?_
        refine g_seq ?_
        refine g_cond_t rfl (by decide) ?_
        refine g_skip ?_
        refine g_then ?_
        refine g_seq ?_
        refine g_block ?_
        refine g_seq ?_
        refine g_region ?_
        refine l_of (s_val (v := .pointer ((p58).map fun q => q.add (1 * 1))) (wt0 rfl) rfl rfl (x_idxR 1 (H61.rwReads (k := 2) rfl) rfl rfl rfl Tryz.underlying24 sz3 (by omega)) ?_)
        refine l_of (s_val (v := .int .i64 ((x.lt - y.lt))) (wt0 rfl) rfl rfl (x_loadR1 1 (H61.rwReads (k := 2) rfl) (by omega) rfl rfl Tryz.underlying3 rfl (intE.flAt1 rfl rfl)) ?_)
        refine l_of (s_val (v := .int .i64 ((x.lt - y.lt))) (wt0 rfl) rfl rfl (x_assign rfl rfl) ?_)
        refine g_nil ?_
        refine g_then ?_
        refine g_seq ?_
        refine g_region ?_
        refine l_of (s_val (v := .int .i64 ((x.lt - y.lt))) (wt0 rfl) rfl rfl (x_move rfl rfl) ?_)
        refine l_of (s_val (v := .bool (!decide (((x.lt - y.lt) : Int) = 0))) (wt0 rfl) rfl rfl (x_bin rfl rfl rfl b_neq) ?_)
        refine g_nil ?_
        refine g_then ?_
        by_cases hb64 : ((x.lt - y.lt) : Int) = 0
        · skip
          refine g_cond_f rfl (nf hb64) ?_
          refine g_skip ?_
          refine g_in ?_
          refine g_then ?_
          refine g_region ?_
          refine l_of (s_val (v := .int .i64 2) (wt0 rfl) rfl rfl (x_bin rfl rfl rfl (b_add (r := 2) (by decide))) ?_)
          refine l_of (s_val (v := .int .i64 2) (wt0 rfl) rfl rfl (x_move rfl rfl) ?_)
          refine g_nil ?_
          refine g_then ?_
          refine g_roundU ?_
          refine g_seq ?_
          refine g_region ?_
          refine l_of (s_val (v := .bool (decide ((2 : Int) < 3))) (wt0 rfl) rfl rfl (x_bin rfl rfl rfl b_lss) ?_)
          refine g_nil ?_
          refine g_then ?_
          refine g_seq ?_
          refine g_cond_t rfl (by decide) ?_
          refine g_skip ?_
          refine g_then ?_
          refine g_seq ?_
          refine g_block ?_
          refine g_seq ?_
          refine g_region ?_
          refine l_of (s_val (v := .pointer ((p58).map fun q => q.add (2 * 1))) (wt0 rfl) rfl rfl (x_idxR 2 (H61.rwReads (k := 2) rfl) rfl rfl rfl Tryz.underlying24 sz3 (by omega)) ?_)
          refine l_of (s_val (v := .int .i64 ((x.id - y.id))) (wt0 rfl) rfl rfl (x_loadR1 2 (H61.rwReads (k := 2) rfl) (by omega) rfl rfl Tryz.underlying3 rfl (intE.flAt1 rfl rfl)) ?_)
          refine l_of (s_val (v := .int .i64 ((x.id - y.id))) (wt0 rfl) rfl rfl (x_assign rfl rfl) ?_)
          refine g_nil ?_
          refine g_then ?_
          refine g_seq ?_
          refine g_region ?_
          refine l_of (s_val (v := .int .i64 ((x.id - y.id))) (wt0 rfl) rfl rfl (x_move rfl rfl) ?_)
          refine l_of (s_val (v := .bool (!decide (((x.id - y.id) : Int) = 0))) (wt0 rfl) rfl rfl (x_bin rfl rfl rfl b_neq) ?_)
          refine g_nil ?_
          refine g_then ?_
          by_cases hb65 : ((x.id - y.id) : Int) = 0
          · skip
            refine g_cond_f rfl (nf hb65) ?_
            refine g_skip ?_
            refine g_in ?_
            refine g_then ?_
            refine g_region ?_
            refine l_of (s_val (v := .int .i64 3) (wt0 rfl) rfl rfl (x_bin rfl rfl rfl (b_add (r := 3) (by decide))) ?_)
            refine l_of (s_val (v := .int .i64 3) (wt0 rfl) rfl rfl (x_move rfl rfl) ?_)
            refine g_nil ?_
            refine g_then ?_
            refine g_roundU ?_
            refine g_seq ?_
            refine g_region ?_
            refine l_of (s_val (v := .bool (decide ((3 : Int) < 3))) (wt0 rfl) rfl rfl (x_bin rfl rfl rfl b_lss) ?_)
            refine g_nil ?_
            refine g_then ?_
            refine g_seq ?_
            refine g_cond_f rfl (by decide) ?_
            refine g_exit ?_
            refine g_then_exit ?_
            refine g_then_exit ?_
            refine g_in_hit ?_
            refine g_then ?_
            refine g_seq ?_
            refine g_region ?_
            refine l_of (s_val (v := .int .i64 0) (wt0 rfl) rfl rfl (x_assign rfl rfl) ?_)
            refine g_nil ?_
            refine g_then ?_
            refine g_ret ?_
            refine fin_ret [.tmp 6] [.int .i64 0] rfl ⟨rfl, trivial⟩ ?_
            have hv : c3 x y = 0 := by
              unfold c3
              rcases st_cases x with ⟨hb1, hs1, hl1⟩ | ⟨hb1, hs1, hl1⟩ <;> rcases st_cases y with ⟨hb2, hs2, hl2⟩ | ⟨hb2, hs2, hl2⟩ <;> rw [hb1] at hkx <;> rw [hb2] at hky <;> rw [hs1, hs2] at hsg <;> rw [hs1, hs2, hl1, hl2]
              repeat' split
              all_goals first | omega | (simp only [hkx, hky, Bool.true_eq_false, Bool.false_eq_true] at *)
            exact ⟨by rw [hv]; rfl, H61.mask [false, false, false, false, false, true]⟩
          · skip
            refine g_cond_t rfl (nt hb65) ?_
            refine g_seq ?_
            refine g_region ?_
            refine l_of (s_val (v := .int .i64 ((x.id - y.id))) (wt0 rfl) rfl rfl (x_move rfl rfl) ?_)
            refine l_of (s_val (v := .int .i64 ((x.id - y.id))) (wt0 rfl) rfl rfl (x_assign rfl rfl) ?_)
            refine g_nil ?_
            refine g_then ?_
            refine g_ret ?_
            refine g_in_ret ?_
            refine g_then_ret ?_
            refine g_then_ret ?_
            refine g_in_ret ?_
            refine g_then_ret ?_
            refine fin_ret [.tmp 6] [.int .i64 ((x.id - y.id))] rfl ⟨rfl, trivial⟩ ?_
            have hv : c3 x y = (x.id - y.id) := by
              unfold c3
              rcases st_cases x with ⟨hb1, hs1, hl1⟩ | ⟨hb1, hs1, hl1⟩ <;> rcases st_cases y with ⟨hb2, hs2, hl2⟩ | ⟨hb2, hs2, hl2⟩ <;> rw [hb1] at hkx <;> rw [hb2] at hky <;> rw [hs1, hs2] at hsg <;> rw [hs1, hs2, hl1, hl2]
              repeat' split
              all_goals first | omega | (simp only [hkx, hky, Bool.true_eq_false, Bool.false_eq_true] at *)
            exact ⟨by rw [hv]; rfl, H61.mask [false, false, false, false, false, true]⟩
        · skip
          refine g_cond_t rfl (nt hb64) ?_
          refine g_seq ?_
          refine g_region ?_
          refine l_of (s_val (v := .int .i64 ((x.lt - y.lt))) (wt0 rfl) rfl rfl (x_move rfl rfl) ?_)
          refine l_of (s_val (v := .int .i64 ((x.lt - y.lt))) (wt0 rfl) rfl rfl (x_assign rfl rfl) ?_)
          refine g_nil ?_
          refine g_then ?_
          refine g_ret ?_
          refine g_in_ret ?_
          refine g_then_ret ?_
          refine g_then_ret ?_
          refine g_in_ret ?_
          refine g_then_ret ?_
          refine fin_ret [.tmp 6] [.int .i64 ((x.lt - y.lt))] rfl ⟨rfl, trivial⟩ ?_
          have hv : c3 x y = (x.lt - y.lt) := by
            unfold c3
            rcases st_cases x with ⟨hb1, hs1, hl1⟩ | ⟨hb1, hs1, hl1⟩ <;> rcases st_cases y with ⟨hb2, hs2, hl2⟩ | ⟨hb2, hs2, hl2⟩ <;> rw [hb1] at hkx <;> rw [hb2] at hky <;> rw [hs1, hs2] at hsg <;> rw [hs1, hs2, hl1, hl2]
            repeat' split
            all_goals first | omega | (simp only [hkx, hky, Bool.true_eq_false, Bool.false_eq_true] at *)
          exact ⟨by rw [hv]; rfl, H61.mask [false, false, false, false, false, true]⟩
      · skip
        refine g_cond_t rfl (nt hb63) ?_
        refine g_seq ?_
        refine g_region ?_
        refine l_of (s_val (v := .int .i64 ((sgN (kpB x) (kpB y)))) (wt0 rfl) rfl rfl (x_move rfl rfl) ?_)
        refine l_of (s_val (v := .int .i64 ((sgN (kpB x) (kpB y)))) (wt0 rfl) rfl rfl (x_assign rfl rfl) ?_)
        refine g_nil ?_
        refine g_then ?_
        refine g_ret ?_
        refine g_in_ret ?_
        refine g_then_ret ?_
        refine g_then_ret ?_
        refine g_in_ret ?_
        refine g_then_ret ?_
        refine fin_ret [.tmp 6] [.int .i64 ((sgN (kpB x) (kpB y)))] rfl ⟨rfl, trivial⟩ ?_
        have hv : c3 x y = (sgN (kpB x) (kpB y)) := by
          unfold c3
          rcases st_cases x with ⟨hb1, hs1, hl1⟩ | ⟨hb1, hs1, hl1⟩ <;> rcases st_cases y with ⟨hb2, hs2, hl2⟩ | ⟨hb2, hs2, hl2⟩ <;> rw [hb1] at hkx <;> rw [hb2] at hky <;> rw [hs1, hs2] at hsg <;> rw [hs1, hs2, hl1, hl2]
          repeat' split
          all_goals first | omega | (simp only [hkx, hky, Bool.true_eq_false, Bool.false_eq_true] at *)
        exact ⟨by rw [hv]; rfl, H61.mask [false, false, false, false, false, true]⟩
end Go.Proofs.YthfglkkjkpdkpaaGreatDoor
namespace Go.Proofs.YthfglkkjkpdkpaaGreatDoor
open Go.RowKit

theorem cl42 : callable Tryz.prog 42 = true := by kernel_rfl
set_option maxRecDepth 20000 in
set_option maxHeartbeats 4000000 in
theorem best2_r (l : List Rv) (p : Option Addr) (n c9 : Nat) (hn2 : n ≤ 1000) (hne : 0 < n) (hDl : ∀ x ∈ l, DV x)  (w : World) (hr : Reads w p n c9 10 (fl rvL l)) : Calls Tryz.prog 20 #[.int .i64 2, .slice p n c9] w fun e w' => ∃ (j : Nat) (x : Rv), e = .returned (.int .i64 (j : Int)) ∧ IsBest c2 l l.length j x ∧ S w' [Old w no] := by
 have H0 := S.old w
 have hnl := hr.lenL rvE
 refine enter 30 Tryz.func20 rfl rfl rfl ?_
 refine g_weak [(0, .int .i64 2), (1, .slice p n c9)] ⟨rfl, rfl, trivial⟩ ?_
 refine w_s ?_
 refine w_a ?_
 refine w_e ?_
 refine w_s ?_
 refine w_a ?_
 refine w_e ?_
 refine g_seq ?_
 refine w_s ?_
 refine w_m ?_
 refine w_v (v := .int .i64 ((n : Int))) (x_lenl rfl rfl Tryz.underlying22) ?_
 refine w_m ?_
 refine w_e ?_
 refine g_block ?_
 refine g_loop (ι := Nat × Int) (fun (i, at9) => [(0, .int .i64 2), (1, .slice p n c9), (5, .int .i64 at9), (8, .slice p n c9), (9, .int .i64 ((n : Int))), (10, .int .i64 ((i : Int)))]) (fun (i, at9) wx => (i ≤ n) ∧ (BestTo c2 l i at9) ∧ S wx [Old w no]) (fun (i, at9) => n - i) (0, (-1)) ⟨rfl, rfl, rfl, rfl, rfl, rfl, trivial⟩ ⟨Nat.zero_le _, .inl ⟨rfl, rfl⟩, H0⟩ ?_
 rintro ⟨i, at9⟩ wq1 ⟨hi, hat, H2⟩
 refine g_weak [(0, .int .i64 2), (1, .slice p n c9), (5, .int .i64 at9), (8, .slice p n c9), (9, .int .i64 ((n : Int))), (10, .int .i64 ((i : Int)))] ⟨rfl, rfl, rfl, rfl, rfl, rfl, trivial⟩ ?_
 refine w_s ?_
 refine w_b ?_
 refine w_e ?_
 refine g_seq ?_
 by_cases hb3 : ((i : Int) : Int) < (n : Int)
 ·
  refine g_cond_t rfl (decide_eq_true hb3) ?_
  refine g_skip ?_
  refine g_then ?_
  refine g_seq ?_
  refine g_block ?_
  refine w_s ?_
  refine w_m ?_
  refine w_v (v := .pointer ((p).map fun q => q.add (i * 10))) (x_idxR i (H2.exReads (k := 0) rfl hr (fun _ _ _ h => h)) rfl rfl rfl Tryz.underlying22 sz30 (by omega)) ?_
  have hlq := (H2.exReads (k := 0) rfl hr (fun _ _ _ h => h)).lenL rvE
  obtain ⟨x4, hx4⟩ := ex_at (l := l) (j := i) (by omega)
  clear hlq
  refine w_v (v := .agg #[.int .i64 (x4.id), .bool x4.intr, .bool x4.chk, .int .i64 (x4.frm), .int .i64 (x4.to), .int .i64 (x4.lt), .int .i64 (x4.since), .bool x4.snb, .bool x4.now, .bool x4.seed]) (x_loadRA (vs := rvL x4) i (H2.exReads (k := 0) rfl hr (fun _ _ _ h => h)) (by omega) rfl rfl Tryz.underlying30 rfl sz30 (by rfl) (rvE.flAt hx4)) ?_
  refine l_of (s_alloc H2 (wt0 rfl) rfl rfl rfl ze30 ?_)
  intro g5 wq6 H7
  refine w_a ?_
  refine l_of (w_st #[.int .i64 (x4.id), .bool x4.intr, .bool x4.chk, .int .i64 (x4.frm), .int .i64 (x4.to), .int .i64 (x4.lt), .int .i64 (x4.since), .bool x4.snb, .bool x4.now, .bool x4.seed] H7 0 ?_)
  intro wq8 H9
  refine w_e ?_
  refine g_seq ?_
  refine g_any [] (fun wx => S wx [Ob g5 (.cells #[.int .i64 (x4.id), .bool x4.intr, .bool x4.chk, .int .i64 (x4.frm), .int .i64 (x4.to), .int .i64 (x4.lt), .int .i64 (x4.since), .bool x4.snb, .bool x4.now, .bool x4.seed] 30 (0, 0)), Old w no]) [] (by kernel_rfl) H9 (fun wq10 H11 => ?_)
  refine w_t 0 rfl H11 (fun _ _ => xm) ?_
  refine w_t 1 rfl H11 (fun _ _ => x_bin rfl rfl rfl b_lss) ?_
  refine w_t 2 rfl H11 (fun _ _ => xm) ?_
  by_cases hb12 : (at9 : Int) < 0
  ·
   refine w_tn 3 rfl (decide_eq_true hb12) H11 ?_
   refine w_tn 4 rfl (decide_eq_true hb12) H11 ?_
   refine w_tn 5 rfl (decide_eq_true hb12) H11 ?_
   refine w_tn 6 rfl (decide_eq_true hb12) H11 ?_
   refine w_tn 7 rfl (decide_eq_true hb12) H11 ?_
   refine w_tn 8 rfl (decide_eq_true hb12) H11 ?_
   refine a_one (i := 9) (by kernel_rfl) rfl ?_
   refine s_not (wn1 rfl rfl rfl rfl (decide_eq_true hb12)) rfl rfl ?_
   refine a_k H11 ?_
   refine w_tn 10 rfl (decide_eq_true hb12) H11 ?_
   refine w_t (v := .bool true) 11 rfl H11 (fun _ _ => x_pick_t rfl rfl (decide_eq_true hb12) rfl) ?_
   refine a_done (by kernel_rfl) ?_
   refine g_then ?_
   refine g_cond_t rfl rfl ?_
   refine g_region ?_
   refine w_r2 ?_
   refine g_nil ?_
   refine g_in ?_
   refine g_then ?_
   refine g_region ?_
   refine w_b (v := .int .i64 (((i + 1 : Nat) : Int))) (hb := (b_add (by rw [w64 (by omega)]; omega))) ?_
   refine w_m ?_
   refine w_e ?_
   refine g_round (i := (i, at9)) ((i + 1), (i : Int)) ?_ ?_ ?_
   · exact ⟨rfl, rfl, rfl, rfl, rfl, rfl, trivial⟩
   · exact ⟨by omega, (BestTo.of (hat.first c2_wk hb12 hx4)), (H11.mask [false, true])⟩
   · (try dsimp only); omega
  ·
   obtain ⟨j1, z1, rfl, hB1⟩ := hat.at hb12
   have hjl1 := (List.getElem?_eq_some_iff.1 hB1.2.1).1
   have hji1 := hB1.1
   refine w_tg 3 rfl (decide_eq_false hb12) H11 (fun _ _ => xm) ?_
   refine w_tg (v := .agg #[.int .i64 (x4.id), .bool x4.intr, .bool x4.chk, .int .i64 (x4.frm), .int .i64 (x4.to), .int .i64 (x4.lt), .int .i64 (x4.since), .bool x4.snb, .bool x4.now, .bool x4.seed]) 4 rfl (decide_eq_false hb12) H11 (fun _ H => x_loadA H 0 rfl rfl Tryz.underlying30 rfl sz30 rfl rfl rfl) ?_
   refine w_tg 5 rfl (decide_eq_false hb12) H11 (fun _ _ => xm) ?_
   refine w_tg 6 rfl (decide_eq_false hb12) H11 (fun _ _ => xm) ?_
   refine w_tg (v := .pointer ((p).map fun q => q.add (j1 * 10))) 7 rfl (decide_eq_false hb12) H11 (fun _ _ => x_idxP j1 ((H11.exReads (k := 1) rfl hr (fun _ _ _ h => h)).some (by omega)) rfl rfl rfl Tryz.underlying22 sz30 (by omega)) ?_
   refine w_tg (v := .agg #[.int .i64 (z1.id), .bool z1.intr, .bool z1.chk, .int .i64 (z1.frm), .int .i64 (z1.to), .int .i64 (z1.lt), .int .i64 (z1.since), .bool z1.snb, .bool z1.now, .bool z1.seed]) 8 rfl (decide_eq_false hb12) H11 (fun _ H => x_loadRA (vs := rvL z1) j1 (H.exReads (k := 1) rfl hr (fun _ _ _ h => h)) (by omega) rfl rfl Tryz.underlying30 rfl sz30 (by rfl) (rvE.flAt hB1.2.1)) ?_
   refine a_one (i := 9) (by kernel_rfl) rfl ?_
   refine s_call0 H11 (wt1 rfl rfl rfl rfl (decide_eq_false hb12)) (x_call' rfl rfl cl33) (less2_r x4 z1 (hDl _ (List.mem_of_getElem? hx4)) (hDl _ (List.mem_of_getElem? hB1.2.1)) _) rfl rfl ?_
   intro wq13 H14
   refine a_k H14 ?_
   refine w_tg 10 rfl (decide_eq_false hb12) H14 (fun _ _ => x_bin rfl rfl rfl b_lss) ?_
   refine w_t (v := .bool (decide (((c2 x4 z1) : Int) < 0))) 11 rfl H14 (fun _ _ => x_pick_f rfl rfl (decide_eq_false hb12) rfl) ?_
   refine a_done (by kernel_rfl) ?_
   refine g_then ?_
   by_cases hb15 : ((c2 x4 z1) : Int) < 0
   ·
    refine g_cond_t rfl (decide_eq_true hb15) ?_
    refine g_region ?_
    refine w_r2 ?_
    refine g_nil ?_
    refine g_in ?_
    refine g_then ?_
    refine g_region ?_
    refine w_b (v := .int .i64 (((i + 1 : Nat) : Int))) (hb := (b_add (by rw [w64 (by omega)]; omega))) ?_
    refine w_m ?_
    refine w_e ?_
    refine g_round (i := (i, (j1 : Int))) ((i + 1), (i : Int)) ?_ ?_ ?_
    · exact ⟨rfl, rfl, rfl, rfl, rfl, rfl, trivial⟩
    · exact ⟨by omega, (BestTo.of (hB1.take c2_wk hx4 hb15)), (H14.mask [false, true])⟩
    · (try dsimp only); omega
   ·
    refine g_cond_f rfl (decide_eq_false hb15) ?_
    refine g_skip ?_
    refine g_in ?_
    refine g_then ?_
    refine g_region ?_
    refine w_b (v := .int .i64 (((i + 1 : Nat) : Int))) (hb := (b_add (by rw [w64 (by omega)]; omega))) ?_
    refine w_m ?_
    refine w_e ?_
    refine g_round (i := (i, (j1 : Int))) ((i + 1), (j1 : Int)) ?_ ?_ ?_
    · exact ⟨rfl, rfl, rfl, rfl, rfl, rfl, trivial⟩
    · exact ⟨by omega, (BestTo.of (hB1.keep hx4 hb15)), (H14.mask [false, true])⟩
    · (try dsimp only); omega
 ·
  refine g_cond_f rfl (decide_eq_false hb3) ?_
  refine g_exit ?_
  refine g_then_exit ?_
  refine g_then_exit ?_
  refine g_in_hit ?_
  refine g_then ?_
  refine w_s ?_
  refine w_r2 ?_
  refine w_e ?_
  refine g_ret ?_
  refine fin_ret [.tmp 4] [.int .i64 at9] rfl ⟨rfl, trivial⟩ ?_
  obtain ⟨j9, z9, hj9, hB9⟩ := hat.fin (by omega)
  have hin : i = l.length := by omega
  rw [hin] at hB9
  subst hj9
  exact ⟨j9, z9, rfl, hB9, H2.mask [true]⟩
set_option maxRecDepth 20000 in
set_option maxHeartbeats 4000000 in
theorem best4_r (l : List Rv) (p : Option Addr) (n c9 : Nat) (hn2 : n ≤ 1000) (hne : 0 < n) (hDl : ∀ x ∈ l, DV x)  (w : World) (hr : Reads w p n c9 10 (fl rvL l)) : Calls Tryz.prog 20 #[.int .i64 4, .slice p n c9] w fun e w' => ∃ (j : Nat) (x : Rv), e = .returned (.int .i64 (j : Int)) ∧ IsBest c4 l l.length j x ∧ S w' [Old w no] := by
 have H0 := S.old w
 have hnl := hr.lenL rvE
 refine enter 30 Tryz.func20 rfl rfl rfl ?_
 refine g_weak [(0, .int .i64 4), (1, .slice p n c9)] ⟨rfl, rfl, trivial⟩ ?_
 refine w_s ?_
 refine w_a ?_
 refine w_e ?_
 refine w_s ?_
 refine w_a ?_
 refine w_e ?_
 refine g_seq ?_
 refine w_s ?_
 refine w_m ?_
 refine w_v (v := .int .i64 ((n : Int))) (x_lenl rfl rfl Tryz.underlying22) ?_
 refine w_m ?_
 refine w_e ?_
 refine g_block ?_
 refine g_loop (ι := Nat × Int) (fun (i, at9) => [(0, .int .i64 4), (1, .slice p n c9), (5, .int .i64 at9), (8, .slice p n c9), (9, .int .i64 ((n : Int))), (10, .int .i64 ((i : Int)))]) (fun (i, at9) wx => (i ≤ n) ∧ (BestTo c4 l i at9) ∧ S wx [Old w no]) (fun (i, at9) => n - i) (0, (-1)) ⟨rfl, rfl, rfl, rfl, rfl, rfl, trivial⟩ ⟨Nat.zero_le _, .inl ⟨rfl, rfl⟩, H0⟩ ?_
 rintro ⟨i, at9⟩ wq1 ⟨hi, hat, H2⟩
 refine g_weak [(0, .int .i64 4), (1, .slice p n c9), (5, .int .i64 at9), (8, .slice p n c9), (9, .int .i64 ((n : Int))), (10, .int .i64 ((i : Int)))] ⟨rfl, rfl, rfl, rfl, rfl, rfl, trivial⟩ ?_
 refine w_s ?_
 refine w_b ?_
 refine w_e ?_
 refine g_seq ?_
 by_cases hb3 : ((i : Int) : Int) < (n : Int)
 ·
  refine g_cond_t rfl (decide_eq_true hb3) ?_
  refine g_skip ?_
  refine g_then ?_
  refine g_seq ?_
  refine g_block ?_
  refine w_s ?_
  refine w_m ?_
  refine w_v (v := .pointer ((p).map fun q => q.add (i * 10))) (x_idxR i (H2.exReads (k := 0) rfl hr (fun _ _ _ h => h)) rfl rfl rfl Tryz.underlying22 sz30 (by omega)) ?_
  have hlq := (H2.exReads (k := 0) rfl hr (fun _ _ _ h => h)).lenL rvE
  obtain ⟨x4, hx4⟩ := ex_at (l := l) (j := i) (by omega)
  clear hlq
  refine w_v (v := .agg #[.int .i64 (x4.id), .bool x4.intr, .bool x4.chk, .int .i64 (x4.frm), .int .i64 (x4.to), .int .i64 (x4.lt), .int .i64 (x4.since), .bool x4.snb, .bool x4.now, .bool x4.seed]) (x_loadRA (vs := rvL x4) i (H2.exReads (k := 0) rfl hr (fun _ _ _ h => h)) (by omega) rfl rfl Tryz.underlying30 rfl sz30 (by rfl) (rvE.flAt hx4)) ?_
  refine l_of (s_alloc H2 (wt0 rfl) rfl rfl rfl ze30 ?_)
  intro g5 wq6 H7
  refine w_a ?_
  refine l_of (w_st #[.int .i64 (x4.id), .bool x4.intr, .bool x4.chk, .int .i64 (x4.frm), .int .i64 (x4.to), .int .i64 (x4.lt), .int .i64 (x4.since), .bool x4.snb, .bool x4.now, .bool x4.seed] H7 0 ?_)
  intro wq8 H9
  refine w_e ?_
  refine g_seq ?_
  refine g_any [] (fun wx => S wx [Ob g5 (.cells #[.int .i64 (x4.id), .bool x4.intr, .bool x4.chk, .int .i64 (x4.frm), .int .i64 (x4.to), .int .i64 (x4.lt), .int .i64 (x4.since), .bool x4.snb, .bool x4.now, .bool x4.seed] 30 (0, 0)), Old w no]) [] (by kernel_rfl) H9 (fun wq10 H11 => ?_)
  refine w_t 0 rfl H11 (fun _ _ => xm) ?_
  refine w_t 1 rfl H11 (fun _ _ => x_bin rfl rfl rfl b_lss) ?_
  refine w_t 2 rfl H11 (fun _ _ => xm) ?_
  by_cases hb12 : (at9 : Int) < 0
  ·
   refine w_tn 3 rfl (decide_eq_true hb12) H11 ?_
   refine w_tn 4 rfl (decide_eq_true hb12) H11 ?_
   refine w_tn 5 rfl (decide_eq_true hb12) H11 ?_
   refine w_tn 6 rfl (decide_eq_true hb12) H11 ?_
   refine w_tn 7 rfl (decide_eq_true hb12) H11 ?_
   refine w_tn 8 rfl (decide_eq_true hb12) H11 ?_
   refine a_one (i := 9) (by kernel_rfl) rfl ?_
   refine s_not (wn1 rfl rfl rfl rfl (decide_eq_true hb12)) rfl rfl ?_
   refine a_k H11 ?_
   refine w_tn 10 rfl (decide_eq_true hb12) H11 ?_
   refine w_t (v := .bool true) 11 rfl H11 (fun _ _ => x_pick_t rfl rfl (decide_eq_true hb12) rfl) ?_
   refine a_done (by kernel_rfl) ?_
   refine g_then ?_
   refine g_cond_t rfl rfl ?_
   refine g_region ?_
   refine w_r2 ?_
   refine g_nil ?_
   refine g_in ?_
   refine g_then ?_
   refine g_region ?_
   refine w_b (v := .int .i64 (((i + 1 : Nat) : Int))) (hb := (b_add (by rw [w64 (by omega)]; omega))) ?_
   refine w_m ?_
   refine w_e ?_
   refine g_round (i := (i, at9)) ((i + 1), (i : Int)) ?_ ?_ ?_
   · exact ⟨rfl, rfl, rfl, rfl, rfl, rfl, trivial⟩
   · exact ⟨by omega, (BestTo.of (hat.first c4_wk hb12 hx4)), (H11.mask [false, true])⟩
   · (try dsimp only); omega
  ·
   obtain ⟨j1, z1, rfl, hB1⟩ := hat.at hb12
   have hjl1 := (List.getElem?_eq_some_iff.1 hB1.2.1).1
   have hji1 := hB1.1
   refine w_tg 3 rfl (decide_eq_false hb12) H11 (fun _ _ => xm) ?_
   refine w_tg (v := .agg #[.int .i64 (x4.id), .bool x4.intr, .bool x4.chk, .int .i64 (x4.frm), .int .i64 (x4.to), .int .i64 (x4.lt), .int .i64 (x4.since), .bool x4.snb, .bool x4.now, .bool x4.seed]) 4 rfl (decide_eq_false hb12) H11 (fun _ H => x_loadA H 0 rfl rfl Tryz.underlying30 rfl sz30 rfl rfl rfl) ?_
   refine w_tg 5 rfl (decide_eq_false hb12) H11 (fun _ _ => xm) ?_
   refine w_tg 6 rfl (decide_eq_false hb12) H11 (fun _ _ => xm) ?_
   refine w_tg (v := .pointer ((p).map fun q => q.add (j1 * 10))) 7 rfl (decide_eq_false hb12) H11 (fun _ _ => x_idxP j1 ((H11.exReads (k := 1) rfl hr (fun _ _ _ h => h)).some (by omega)) rfl rfl rfl Tryz.underlying22 sz30 (by omega)) ?_
   refine w_tg (v := .agg #[.int .i64 (z1.id), .bool z1.intr, .bool z1.chk, .int .i64 (z1.frm), .int .i64 (z1.to), .int .i64 (z1.lt), .int .i64 (z1.since), .bool z1.snb, .bool z1.now, .bool z1.seed]) 8 rfl (decide_eq_false hb12) H11 (fun _ H => x_loadRA (vs := rvL z1) j1 (H.exReads (k := 1) rfl hr (fun _ _ _ h => h)) (by omega) rfl rfl Tryz.underlying30 rfl sz30 (by rfl) (rvE.flAt hB1.2.1)) ?_
   refine a_one (i := 9) (by kernel_rfl) rfl ?_
   refine s_call0 H11 (wt1 rfl rfl rfl rfl (decide_eq_false hb12)) (x_call' rfl rfl cl33) (less4_r x4 z1 (hDl _ (List.mem_of_getElem? hx4)) (hDl _ (List.mem_of_getElem? hB1.2.1)) _) rfl rfl ?_
   intro wq13 H14
   refine a_k H14 ?_
   refine w_tg 10 rfl (decide_eq_false hb12) H14 (fun _ _ => x_bin rfl rfl rfl b_lss) ?_
   refine w_t (v := .bool (decide (((c4 x4 z1) : Int) < 0))) 11 rfl H14 (fun _ _ => x_pick_f rfl rfl (decide_eq_false hb12) rfl) ?_
   refine a_done (by kernel_rfl) ?_
   refine g_then ?_
   by_cases hb15 : ((c4 x4 z1) : Int) < 0
   ·
    refine g_cond_t rfl (decide_eq_true hb15) ?_
    refine g_region ?_
    refine w_r2 ?_
    refine g_nil ?_
    refine g_in ?_
    refine g_then ?_
    refine g_region ?_
    refine w_b (v := .int .i64 (((i + 1 : Nat) : Int))) (hb := (b_add (by rw [w64 (by omega)]; omega))) ?_
    refine w_m ?_
    refine w_e ?_
    refine g_round (i := (i, (j1 : Int))) ((i + 1), (i : Int)) ?_ ?_ ?_
    · exact ⟨rfl, rfl, rfl, rfl, rfl, rfl, trivial⟩
    · exact ⟨by omega, (BestTo.of (hB1.take c4_wk hx4 hb15)), (H14.mask [false, true])⟩
    · (try dsimp only); omega
   ·
    refine g_cond_f rfl (decide_eq_false hb15) ?_
    refine g_skip ?_
    refine g_in ?_
    refine g_then ?_
    refine g_region ?_
    refine w_b (v := .int .i64 (((i + 1 : Nat) : Int))) (hb := (b_add (by rw [w64 (by omega)]; omega))) ?_
    refine w_m ?_
    refine w_e ?_
    refine g_round (i := (i, (j1 : Int))) ((i + 1), (j1 : Int)) ?_ ?_ ?_
    · exact ⟨rfl, rfl, rfl, rfl, rfl, rfl, trivial⟩
    · exact ⟨by omega, (BestTo.of (hB1.keep hx4 hb15)), (H14.mask [false, true])⟩
    · (try dsimp only); omega
 ·
  refine g_cond_f rfl (decide_eq_false hb3) ?_
  refine g_exit ?_
  refine g_then_exit ?_
  refine g_then_exit ?_
  refine g_in_hit ?_
  refine g_then ?_
  refine w_s ?_
  refine w_r2 ?_
  refine w_e ?_
  refine g_ret ?_
  refine fin_ret [.tmp 4] [.int .i64 at9] rfl ⟨rfl, trivial⟩ ?_
  obtain ⟨j9, z9, hj9, hB9⟩ := hat.fin (by omega)
  have hin : i = l.length := by omega
  rw [hin] at hB9
  subst hj9
  exact ⟨j9, z9, rfl, hB9, H2.mask [true]⟩
set_option maxRecDepth 20000 in
set_option maxHeartbeats 4000000 in
theorem best3_r (l : List Rv) (p : Option Addr) (n c9 : Nat) (hn2 : n ≤ 1000) (hne : 0 < n) (hDl : ∀ x ∈ l, DV3 x)  (w : World) (hr : Reads w p n c9 10 (fl rvL l)) : Calls Tryz.prog 20 #[.int .i64 3, .slice p n c9] w fun e w' => ∃ (j : Nat) (x : Rv), e = .returned (.int .i64 (j : Int)) ∧ IsBest c3 l l.length j x ∧ S w' [Old w no] := by
 have H0 := S.old w
 have hnl := hr.lenL rvE
 refine enter 30 Tryz.func20 rfl rfl rfl ?_
 refine g_weak [(0, .int .i64 3), (1, .slice p n c9)] ⟨rfl, rfl, trivial⟩ ?_
 refine w_s ?_
 refine w_a ?_
 refine w_e ?_
 refine w_s ?_
 refine w_a ?_
 refine w_e ?_
 refine g_seq ?_
 refine w_s ?_
 refine w_m ?_
 refine w_v (v := .int .i64 ((n : Int))) (x_lenl rfl rfl Tryz.underlying22) ?_
 refine w_m ?_
 refine w_e ?_
 refine g_block ?_
 refine g_loop (ι := Nat × Int) (fun (i, at9) => [(0, .int .i64 3), (1, .slice p n c9), (5, .int .i64 at9), (8, .slice p n c9), (9, .int .i64 ((n : Int))), (10, .int .i64 ((i : Int)))]) (fun (i, at9) wx => (i ≤ n) ∧ (BestTo c3 l i at9) ∧ S wx [Old w no]) (fun (i, at9) => n - i) (0, (-1)) ⟨rfl, rfl, rfl, rfl, rfl, rfl, trivial⟩ ⟨Nat.zero_le _, .inl ⟨rfl, rfl⟩, H0⟩ ?_
 rintro ⟨i, at9⟩ wq1 ⟨hi, hat, H2⟩
 refine g_weak [(0, .int .i64 3), (1, .slice p n c9), (5, .int .i64 at9), (8, .slice p n c9), (9, .int .i64 ((n : Int))), (10, .int .i64 ((i : Int)))] ⟨rfl, rfl, rfl, rfl, rfl, rfl, trivial⟩ ?_
 refine w_s ?_
 refine w_b ?_
 refine w_e ?_
 refine g_seq ?_
 by_cases hb3 : ((i : Int) : Int) < (n : Int)
 ·
  refine g_cond_t rfl (decide_eq_true hb3) ?_
  refine g_skip ?_
  refine g_then ?_
  refine g_seq ?_
  refine g_block ?_
  refine w_s ?_
  refine w_m ?_
  refine w_v (v := .pointer ((p).map fun q => q.add (i * 10))) (x_idxR i (H2.exReads (k := 0) rfl hr (fun _ _ _ h => h)) rfl rfl rfl Tryz.underlying22 sz30 (by omega)) ?_
  have hlq := (H2.exReads (k := 0) rfl hr (fun _ _ _ h => h)).lenL rvE
  obtain ⟨x4, hx4⟩ := ex_at (l := l) (j := i) (by omega)
  clear hlq
  refine w_v (v := .agg #[.int .i64 (x4.id), .bool x4.intr, .bool x4.chk, .int .i64 (x4.frm), .int .i64 (x4.to), .int .i64 (x4.lt), .int .i64 (x4.since), .bool x4.snb, .bool x4.now, .bool x4.seed]) (x_loadRA (vs := rvL x4) i (H2.exReads (k := 0) rfl hr (fun _ _ _ h => h)) (by omega) rfl rfl Tryz.underlying30 rfl sz30 (by rfl) (rvE.flAt hx4)) ?_
  refine l_of (s_alloc H2 (wt0 rfl) rfl rfl rfl ze30 ?_)
  intro g5 wq6 H7
  refine w_a ?_
  refine l_of (w_st #[.int .i64 (x4.id), .bool x4.intr, .bool x4.chk, .int .i64 (x4.frm), .int .i64 (x4.to), .int .i64 (x4.lt), .int .i64 (x4.since), .bool x4.snb, .bool x4.now, .bool x4.seed] H7 0 ?_)
  intro wq8 H9
  refine w_e ?_
  refine g_seq ?_
  refine g_any [] (fun wx => S wx [Ob g5 (.cells #[.int .i64 (x4.id), .bool x4.intr, .bool x4.chk, .int .i64 (x4.frm), .int .i64 (x4.to), .int .i64 (x4.lt), .int .i64 (x4.since), .bool x4.snb, .bool x4.now, .bool x4.seed] 30 (0, 0)), Old w no]) [] (by kernel_rfl) H9 (fun wq10 H11 => ?_)
  refine w_t 0 rfl H11 (fun _ _ => xm) ?_
  refine w_t 1 rfl H11 (fun _ _ => x_bin rfl rfl rfl b_lss) ?_
  refine w_t 2 rfl H11 (fun _ _ => xm) ?_
  by_cases hb12 : (at9 : Int) < 0
  ·
   refine w_tn 3 rfl (decide_eq_true hb12) H11 ?_
   refine w_tn 4 rfl (decide_eq_true hb12) H11 ?_
   refine w_tn 5 rfl (decide_eq_true hb12) H11 ?_
   refine w_tn 6 rfl (decide_eq_true hb12) H11 ?_
   refine w_tn 7 rfl (decide_eq_true hb12) H11 ?_
   refine w_tn 8 rfl (decide_eq_true hb12) H11 ?_
   refine a_one (i := 9) (by kernel_rfl) rfl ?_
   refine s_not (wn1 rfl rfl rfl rfl (decide_eq_true hb12)) rfl rfl ?_
   refine a_k H11 ?_
   refine w_tn 10 rfl (decide_eq_true hb12) H11 ?_
   refine w_t (v := .bool true) 11 rfl H11 (fun _ _ => x_pick_t rfl rfl (decide_eq_true hb12) rfl) ?_
   refine a_done (by kernel_rfl) ?_
   refine g_then ?_
   refine g_cond_t rfl rfl ?_
   refine g_region ?_
   refine w_r2 ?_
   refine g_nil ?_
   refine g_in ?_
   refine g_then ?_
   refine g_region ?_
   refine w_b (v := .int .i64 (((i + 1 : Nat) : Int))) (hb := (b_add (by rw [w64 (by omega)]; omega))) ?_
   refine w_m ?_
   refine w_e ?_
   refine g_round (i := (i, at9)) ((i + 1), (i : Int)) ?_ ?_ ?_
   · exact ⟨rfl, rfl, rfl, rfl, rfl, rfl, trivial⟩
   · exact ⟨by omega, (BestTo.of (hat.first c3_wk2 hb12 hx4)), (H11.mask [false, true])⟩
   · (try dsimp only); omega
  ·
   obtain ⟨j1, z1, rfl, hB1⟩ := hat.at hb12
   have hjl1 := (List.getElem?_eq_some_iff.1 hB1.2.1).1
   have hji1 := hB1.1
   refine w_tg 3 rfl (decide_eq_false hb12) H11 (fun _ _ => xm) ?_
   refine w_tg (v := .agg #[.int .i64 (x4.id), .bool x4.intr, .bool x4.chk, .int .i64 (x4.frm), .int .i64 (x4.to), .int .i64 (x4.lt), .int .i64 (x4.since), .bool x4.snb, .bool x4.now, .bool x4.seed]) 4 rfl (decide_eq_false hb12) H11 (fun _ H => x_loadA H 0 rfl rfl Tryz.underlying30 rfl sz30 rfl rfl rfl) ?_
   refine w_tg 5 rfl (decide_eq_false hb12) H11 (fun _ _ => xm) ?_
   refine w_tg 6 rfl (decide_eq_false hb12) H11 (fun _ _ => xm) ?_
   refine w_tg (v := .pointer ((p).map fun q => q.add (j1 * 10))) 7 rfl (decide_eq_false hb12) H11 (fun _ _ => x_idxP j1 ((H11.exReads (k := 1) rfl hr (fun _ _ _ h => h)).some (by omega)) rfl rfl rfl Tryz.underlying22 sz30 (by omega)) ?_
   refine w_tg (v := .agg #[.int .i64 (z1.id), .bool z1.intr, .bool z1.chk, .int .i64 (z1.frm), .int .i64 (z1.to), .int .i64 (z1.lt), .int .i64 (z1.since), .bool z1.snb, .bool z1.now, .bool z1.seed]) 8 rfl (decide_eq_false hb12) H11 (fun _ H => x_loadRA (vs := rvL z1) j1 (H.exReads (k := 1) rfl hr (fun _ _ _ h => h)) (by omega) rfl rfl Tryz.underlying30 rfl sz30 (by rfl) (rvE.flAt hB1.2.1)) ?_
   refine a_one (i := 9) (by kernel_rfl) rfl ?_
   refine s_call0 H11 (wt1 rfl rfl rfl rfl (decide_eq_false hb12)) (x_call' rfl rfl cl33) (less3_r x4 z1 (hDl _ (List.mem_of_getElem? hx4)) (hDl _ (List.mem_of_getElem? hB1.2.1)) _) rfl rfl ?_
   intro wq13 H14
   refine a_k H14 ?_
   refine w_tg 10 rfl (decide_eq_false hb12) H14 (fun _ _ => x_bin rfl rfl rfl b_lss) ?_
   refine w_t (v := .bool (decide (((c3 x4 z1) : Int) < 0))) 11 rfl H14 (fun _ _ => x_pick_f rfl rfl (decide_eq_false hb12) rfl) ?_
   refine a_done (by kernel_rfl) ?_
   refine g_then ?_
   by_cases hb15 : ((c3 x4 z1) : Int) < 0
   ·
    refine g_cond_t rfl (decide_eq_true hb15) ?_
    refine g_region ?_
    refine w_r2 ?_
    refine g_nil ?_
    refine g_in ?_
    refine g_then ?_
    refine g_region ?_
    refine w_b (v := .int .i64 (((i + 1 : Nat) : Int))) (hb := (b_add (by rw [w64 (by omega)]; omega))) ?_
    refine w_m ?_
    refine w_e ?_
    refine g_round (i := (i, (j1 : Int))) ((i + 1), (i : Int)) ?_ ?_ ?_
    · exact ⟨rfl, rfl, rfl, rfl, rfl, rfl, trivial⟩
    · exact ⟨by omega, (BestTo.of (hB1.take c3_wk2 hx4 hb15)), (H14.mask [false, true])⟩
    · (try dsimp only); omega
   ·
    refine g_cond_f rfl (decide_eq_false hb15) ?_
    refine g_skip ?_
    refine g_in ?_
    refine g_then ?_
    refine g_region ?_
    refine w_b (v := .int .i64 (((i + 1 : Nat) : Int))) (hb := (b_add (by rw [w64 (by omega)]; omega))) ?_
    refine w_m ?_
    refine w_e ?_
    refine g_round (i := (i, (j1 : Int))) ((i + 1), (j1 : Int)) ?_ ?_ ?_
    · exact ⟨rfl, rfl, rfl, rfl, rfl, rfl, trivial⟩
    · exact ⟨by omega, (BestTo.of (hB1.keep hx4 hb15)), (H14.mask [false, true])⟩
    · (try dsimp only); omega
 ·
  refine g_cond_f rfl (decide_eq_false hb3) ?_
  refine g_exit ?_
  refine g_then_exit ?_
  refine g_then_exit ?_
  refine g_in_hit ?_
  refine g_then ?_
  refine w_s ?_
  refine w_r2 ?_
  refine w_e ?_
  refine g_ret ?_
  refine fin_ret [.tmp 4] [.int .i64 at9] rfl ⟨rfl, trivial⟩ ?_
  obtain ⟨j9, z9, hj9, hB9⟩ := hat.fin (by omega)
  have hin : i = l.length := by omega
  rw [hin] at hB9
  subst hj9
  exact ⟨j9, z9, rfl, hB9, H2.mask [true]⟩
set_option maxRecDepth 20000 in
set_option maxHeartbeats 4000000 in
theorem lucky_r (round : Int) (seed : ByteArray) (hsd : seed.size ≤ 200) (hrd : 0 ≤ round ∧ round ≤ 9223372036854775807) (l : List Rv) (p : Option Addr) (n c9 : Nat) (hn2 : n ≤ 1000) (hne : 0 < n) (hDl : ∀ x ∈ l, DV x)  (w : World) (hr : Reads w p n c9 10 (fl rvL l)) (ht : PowTab w) : Calls Tryz.prog 25 #[.int .i64 round, .string seed, .slice p n c9] w fun e w' => ∃ (j : Nat) (x : Rv), e = .returned (.int .i64 (j : Int)) ∧ IsBest (cO round seed) l l.length j x ∧ S w' [Old w no] := by
 have H0 := S.old w
 have hnl := hr.lenL rvE
 refine enter 36 Tryz.func25 rfl rfl rfl ?_
 refine g_weak [(0, .int .i64 round), (1, .string seed), (2, .slice p n c9)] ⟨rfl, rfl, rfl, trivial⟩ ?_
 refine w_s ?_
 refine w_a ?_
 refine w_e ?_
 refine w_s ?_
 refine w_a ?_
 refine w_e ?_
 refine g_seq ?_
 refine w_s ?_
 refine w_m ?_
 refine w_v (v := .int .i64 ((n : Int))) (x_lenl rfl rfl Tryz.underlying22) ?_
 refine w_m ?_
 refine w_e ?_
 refine g_block ?_
 refine g_loop (ι := Nat × Int) (fun (i, at9) => [(0, .int .i64 round), (1, .string seed), (2, .slice p n c9), (7, .int .i64 at9), (10, .slice p n c9), (11, .int .i64 ((n : Int))), (12, .int .i64 ((i : Int)))]) (fun (i, at9) wx => (i ≤ n) ∧ (BestTo (cO round seed) l i at9) ∧ S wx [Old w no]) (fun (i, at9) => n - i) (0, (-1)) ⟨rfl, rfl, rfl, rfl, rfl, rfl, rfl, trivial⟩ ⟨Nat.zero_le _, .inl ⟨rfl, rfl⟩, H0⟩ ?_
 rintro ⟨i, at9⟩ wq1 ⟨hi, hat, H2⟩
 refine g_weak [(0, .int .i64 round), (1, .string seed), (2, .slice p n c9), (7, .int .i64 at9), (10, .slice p n c9), (11, .int .i64 ((n : Int))), (12, .int .i64 ((i : Int)))] ⟨rfl, rfl, rfl, rfl, rfl, rfl, rfl, trivial⟩ ?_
 refine w_s ?_
 refine w_b ?_
 refine w_e ?_
 refine g_seq ?_
 by_cases hb3 : ((i : Int) : Int) < (n : Int)
 ·
  refine g_cond_t rfl (decide_eq_true hb3) ?_
  refine g_skip ?_
  refine g_then ?_
  refine g_seq ?_
  refine g_block ?_
  refine w_s ?_
  refine w_m ?_
  refine w_v (v := .pointer ((p).map fun q => q.add (i * 10))) (x_idxR i (H2.exReads (k := 0) rfl hr (fun _ _ _ h => h)) rfl rfl rfl Tryz.underlying22 sz30 (by omega)) ?_
  have hlq := (H2.exReads (k := 0) rfl hr (fun _ _ _ h => h)).lenL rvE
  obtain ⟨x4, hx4⟩ := ex_at (l := l) (j := i) (by omega)
  clear hlq
  refine w_v (v := .agg #[.int .i64 (x4.id), .bool x4.intr, .bool x4.chk, .int .i64 (x4.frm), .int .i64 (x4.to), .int .i64 (x4.lt), .int .i64 (x4.since), .bool x4.snb, .bool x4.now, .bool x4.seed]) (x_loadRA (vs := rvL x4) i (H2.exReads (k := 0) rfl hr (fun _ _ _ h => h)) (by omega) rfl rfl Tryz.underlying30 rfl sz30 (by rfl) (rvE.flAt hx4)) ?_
  refine l_of (s_alloc H2 (wt0 rfl) rfl rfl rfl ze30 ?_)
  intro g5 wq6 H7
  refine w_a ?_
  refine l_of (w_st #[.int .i64 (x4.id), .bool x4.intr, .bool x4.chk, .int .i64 (x4.frm), .int .i64 (x4.to), .int .i64 (x4.lt), .int .i64 (x4.since), .bool x4.snb, .bool x4.now, .bool x4.seed] H7 0 ?_)
  intro wq8 H9
  refine w_e ?_
  refine g_seq ?_
  refine g_any [] (fun wx => S wx [Ob g5 (.cells #[.int .i64 (x4.id), .bool x4.intr, .bool x4.chk, .int .i64 (x4.frm), .int .i64 (x4.to), .int .i64 (x4.lt), .int .i64 (x4.since), .bool x4.snb, .bool x4.now, .bool x4.seed] 30 (0, 0)), Old w no]) [] (by kernel_rfl) H9 (fun wq10 H11 => ?_)
  refine w_t 0 rfl H11 (fun _ _ => xm) ?_
  refine w_t 1 rfl H11 (fun _ _ => x_bin rfl rfl rfl b_lss) ?_
  refine w_t 2 rfl H11 (fun _ _ => xm) ?_
  by_cases hb12 : (at9 : Int) < 0
  ·
   refine w_tn 3 rfl (decide_eq_true hb12) H11 ?_
   refine w_tn 4 rfl (decide_eq_true hb12) H11 ?_
   refine w_tn 5 rfl (decide_eq_true hb12) H11 ?_
   refine w_tn 7 rfl (decide_eq_true hb12) H11 ?_
   refine w_tn 8 rfl (decide_eq_true hb12) H11 ?_
   refine w_tn 9 rfl (decide_eq_true hb12) H11 ?_
   refine w_tn 10 rfl (decide_eq_true hb12) H11 ?_
   refine w_tn 11 rfl (decide_eq_true hb12) H11 ?_
   refine w_tn 12 rfl (decide_eq_true hb12) H11 ?_
   refine a_one (i := 6) (by kernel_rfl) rfl ?_
   refine s_not (wn1 rfl rfl rfl rfl (decide_eq_true hb12)) rfl rfl ?_
   refine a_k H11 ?_
   refine a_one (i := 13) (by kernel_rfl) rfl ?_
   refine s_not (wn1 rfl rfl rfl rfl (decide_eq_true hb12)) rfl rfl ?_
   refine a_k H11 ?_
   refine w_tn 14 rfl (decide_eq_true hb12) H11 ?_
   refine w_t (v := .bool true) 15 rfl H11 (fun _ _ => x_pick_t rfl rfl (decide_eq_true hb12) rfl) ?_
   refine a_done (by kernel_rfl) ?_
   refine g_then ?_
   refine g_cond_t rfl rfl ?_
   refine g_region ?_
   refine w_r2 ?_
   refine g_nil ?_
   refine g_in ?_
   refine g_then ?_
   refine g_region ?_
   refine w_b (v := .int .i64 (((i + 1 : Nat) : Int))) (hb := (b_add (by rw [w64 (by omega)]; omega))) ?_
   refine w_m ?_
   refine w_e ?_
   refine g_round (i := (i, at9)) ((i + 1), (i : Int)) ?_ ?_ ?_
   · exact ⟨rfl, rfl, rfl, rfl, rfl, rfl, rfl, trivial⟩
   · exact ⟨by omega, (BestTo.of (hat.first (cO_wk round seed) hb12 hx4)), (H11.mask [false, true])⟩
   · (try dsimp only); omega
  ·
   obtain ⟨j1, z1, rfl, hB1⟩ := hat.at hb12
   have hjl1 := (List.getElem?_eq_some_iff.1 hB1.2.1).1
   have hji1 := hB1.1
   refine w_tg 3 rfl (decide_eq_false hb12) H11 (fun _ _ => xm) ?_
   refine w_tg 4 rfl (decide_eq_false hb12) H11 (fun _ _ => xm) ?_
   refine w_tg (v := .agg #[.int .i64 (x4.id), .bool x4.intr, .bool x4.chk, .int .i64 (x4.frm), .int .i64 (x4.to), .int .i64 (x4.lt), .int .i64 (x4.since), .bool x4.snb, .bool x4.now, .bool x4.seed]) 5 rfl (decide_eq_false hb12) H11 (fun _ H => x_loadA H 0 rfl rfl Tryz.underlying30 rfl sz30 rfl rfl rfl) ?_
   refine w_tg 7 rfl (decide_eq_false hb12) H11 (fun _ _ => xm) ?_
   refine w_tg 8 rfl (decide_eq_false hb12) H11 (fun _ _ => xm) ?_
   refine w_tg 9 rfl (decide_eq_false hb12) H11 (fun _ _ => xm) ?_
   refine w_tg 10 rfl (decide_eq_false hb12) H11 (fun _ _ => xm) ?_
   refine w_tg (v := .pointer ((p).map fun q => q.add (j1 * 10))) 11 rfl (decide_eq_false hb12) H11 (fun _ _ => x_idxP j1 ((H11.exReads (k := 1) rfl hr (fun _ _ _ h => h)).some (by omega)) rfl rfl rfl Tryz.underlying22 sz30 (by omega)) ?_
   refine w_tg (v := .agg #[.int .i64 (z1.id), .bool z1.intr, .bool z1.chk, .int .i64 (z1.frm), .int .i64 (z1.to), .int .i64 (z1.lt), .int .i64 (z1.since), .bool z1.snb, .bool z1.now, .bool z1.seed]) 12 rfl (decide_eq_false hb12) H11 (fun _ H => x_loadRA (vs := rvL z1) j1 (H.exReads (k := 1) rfl hr (fun _ _ _ h => h)) (by omega) rfl rfl Tryz.underlying30 rfl sz30 (by rfl) (rvE.flAt hB1.2.1)) ?_
   refine a_one (i := 6) (by kernel_rfl) rfl ?_
   refine s_call0 H11 (wt1 rfl rfl rfl rfl (decide_eq_false hb12)) (x_call' rfl rfl cl42) (luck_r seed round hsd hrd x4 (hDl _ (List.mem_of_getElem? hx4)) _ (H11.tab (k := 1) rfl ht)) rfl rfl ?_
   intro wq13 H14
   refine a_k H14 ?_
   refine a_one (i := 13) (by kernel_rfl) rfl ?_
   refine s_call0 H14 (wt1 rfl rfl rfl rfl (decide_eq_false hb12)) (x_call' rfl rfl cl42) (luck_r seed round hsd hrd z1 (hDl _ (List.mem_of_getElem? hB1.2.1)) _ (H14.tab (k := 1) rfl ht)) rfl rfl ?_
   intro wq15 H16
   refine a_k H16 ?_
   refine w_tg (v := .bool (decide (cO round seed x4 z1 < 0))) 14 rfl (decide_eq_false hb12) H16 (fun _ _ => x_bin rfl rfl rfl b_lsS) ?_
   refine w_t (v := .bool (decide (cO round seed x4 z1 < 0))) 15 rfl H16 (fun _ _ => x_pick_f rfl rfl (decide_eq_false hb12) rfl) ?_
   refine a_done (by kernel_rfl) ?_
   refine g_then ?_
   by_cases hb17 : cO round seed x4 z1 < 0
   ·
    refine g_cond_t rfl (decide_eq_true hb17) ?_
    refine g_region ?_
    refine w_r2 ?_
    refine g_nil ?_
    refine g_in ?_
    refine g_then ?_
    refine g_region ?_
    refine w_b (v := .int .i64 (((i + 1 : Nat) : Int))) (hb := (b_add (by rw [w64 (by omega)]; omega))) ?_
    refine w_m ?_
    refine w_e ?_
    refine g_round (i := (i, (j1 : Int))) ((i + 1), (i : Int)) ?_ ?_ ?_
    · exact ⟨rfl, rfl, rfl, rfl, rfl, rfl, rfl, trivial⟩
    · exact ⟨by omega, (BestTo.of (hB1.take (cO_wk round seed) hx4 hb17)), (H16.mask [false, true])⟩
    · (try dsimp only); omega
   ·
    refine g_cond_f rfl (decide_eq_false hb17) ?_
    refine g_skip ?_
    refine g_in ?_
    refine g_then ?_
    refine g_region ?_
    refine w_b (v := .int .i64 (((i + 1 : Nat) : Int))) (hb := (b_add (by rw [w64 (by omega)]; omega))) ?_
    refine w_m ?_
    refine w_e ?_
    refine g_round (i := (i, (j1 : Int))) ((i + 1), (j1 : Int)) ?_ ?_ ?_
    · exact ⟨rfl, rfl, rfl, rfl, rfl, rfl, rfl, trivial⟩
    · exact ⟨by omega, (BestTo.of (hB1.keep hx4 hb17)), (H16.mask [false, true])⟩
    · (try dsimp only); omega
 ·
  refine g_cond_f rfl (decide_eq_false hb3) ?_
  refine g_exit ?_
  refine g_then_exit ?_
  refine g_then_exit ?_
  refine g_in_hit ?_
  refine g_then ?_
  refine w_s ?_
  refine w_r2 ?_
  refine w_e ?_
  refine g_ret ?_
  refine fin_ret [.tmp 6] [.int .i64 at9] rfl ⟨rfl, trivial⟩ ?_
  obtain ⟨j9, z9, hj9, hB9⟩ := hat.fin (by omega)
  have hin : i = l.length := by omega
  rw [hin] at hB9
  subst hj9
  exact ⟨j9, z9, rfl, hB9, H2.mask [true]⟩
end Go.Proofs.YthfglkkjkpdkpaaGreatDoor
