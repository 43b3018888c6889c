import Derived.Test.YthfglkkjkpdkpaaKn
set_option linter.unusedSimpArgs false
set_option linter.unusedVariables false
namespace Go.Proofs.Ythfglkkjkpdkpaa
open Go.RowKit

theorem cl46 : callable Try.prog 46 = true := by kernel_rfl
theorem cl47 : callable Try.prog 47 = true := by kernel_rfl
theorem cl48 : callable Try.prog 48 = true := by kernel_rfl
theorem rt_a {l : List Rt} {slots turn : Int} (h : ¬ rtErr l 0 0 = 0) : rtErr l slots turn = rtErr l 0 0 := by
  unfold rtErr at h ⊢
  by_cases h1 : 200 < l.length ∨ l.any rtBad = true
  · rw [if_pos h1, if_pos h1]
  · rw [if_neg h1] at h ⊢
    by_cases h2 : (l.map Rt.peer).Nodup
    · rw [if_neg (not_not_intro h2), if_neg (by omega)] at h; exact absurd rfl h
    · rw [if_pos h2, if_neg h1, if_pos h2]
theorem rt_ok {l : List Rt} (h : rtErr l 0 0 = 0) : ¬ (200 < l.length ∨ l.any rtBad = true) ∧ (l.map Rt.peer).Nodup := by
  unfold rtErr at h
  by_cases h1 : 200 < l.length ∨ l.any rtBad = true
  · rw [if_pos h1] at h; cases h
  · refine ⟨h1, ?_⟩
    rw [if_neg h1] at h
    by_cases h2 : (l.map Rt.peer).Nodup
    · exact h2
    · rw [if_pos h2] at h; cases h
theorem rtany_none {l : List Rt} (h : ∀ y ∈ l, rtBad y = false) : ¬ l.any rtBad = true := fun hn => by
  obtain ⟨x, hx, h2⟩ := List.any_eq_true.1 hn
  rw [h x hx] at h2; cases h2
set_option maxRecDepth 20000 in
set_option maxHeartbeats 4000000 in
set_option maxRecDepth 20000 in
set_option maxHeartbeats 4000000 in
theorem rated_r (l : List Rt) (p : Option Addr) (n c : Nat) (hn2 : n ≤ 9223372036854775807) (hok : ∀ r ∈ l, okR r)  (w : World) (hr : Reads w p n c 6 (fl rtL l)) : Calls Try.prog 46 #[.slice p n c] w fun e w' => e = .returned (.int .i64 (rtErr l 0 0)) ∧ S w' [Old w no] := by
  have H0 := S.old w
  have hnl := hr.lenL rtE
  refine enter 49 Try.func46 rfl rfl rfl ?_
  refine g_weak [(0, .slice p n c)] ⟨rfl, trivial⟩ ?_
  refine g_seq ?_
  refine g_region ?_
  refine l_of (s_val (v := .int .i64 0) (wt0 rfl) rfl rfl (x_assign rfl rfl) ?_)
  refine g_nil ?_
  refine g_then ?_
  refine g_seq ?_
  refine g_region ?_
  refine l_of (s_makeMap (α := Bool) (Value.int .i64) Value.bool okI H0 (wt0 rfl) rfl rfl rfl ?_)
  intro mg1 wq2 H3
  replace H3 : S wq2 [Mp (Value.int .i64) Value.bool okI mg1 (fun _ => none), Old w no] := H3
  refine l_of (s_val (v := .map (some mg1)) (wt0 rfl) rfl rfl (x_assign rfl rfl) ?_)
  refine g_nil ?_
  refine g_then ?_
  refine g_seq ?_
  refine g_region ?_
  refine l_of (s_val (v := .bool false) (wt0 rfl) rfl rfl (x_assign rfl rfl) ?_)
  refine g_nil ?_
  refine g_then ?_
  refine g_seq ?_
  refine g_seq ?_
  refine g_region ?_
  refine l_of (s_val (v := .slice p n c) (wt0 rfl) rfl rfl (x_move rfl rfl) ?_)
  refine l_of (s_val (v := .int .i64 ((n : Int))) (wt0 rfl) rfl rfl (x_lenl rfl rfl Try.underlying33) ?_)
  refine l_of (s_val (v := .int .i64 0) (wt0 rfl) rfl rfl (x_move rfl rfl) ?_)
  refine g_nil ?_
  refine g_then ?_
  refine g_block ?_
  refine g_loop (ι := Nat × (Int → Option Bool) × Bool) (fun (i, M, tw) => [(0, .slice p n c), (3, .map (some mg1)), (4, .bool tw), (8, .slice p n c), (9, .int .i64 ((n : Int))), (10, .int .i64 ((i : Int)))]) (fun (i, M, tw) wx => (i ≤ n) ∧ (∀ k, (M k).getD false = decide (k ∈ (l.take i).map Rt.peer)) ∧ (tw = false ↔ ((l.take i).map Rt.peer).Nodup) ∧ (∀ y ∈ l.take i, rtBad y = false) ∧ S wx [Mp (Value.int .i64) Value.bool okI mg1 M, Old w no]) (fun (i, M, tw) => n - i) (0, (fun _ => none), false) ⟨rfl, rfl, rfl, rfl, rfl, rfl, trivial⟩ ⟨Nat.zero_le _, (fun k => by rw [List.take_zero]; rfl), (by rw [List.take_zero]; exact ⟨fun _ => List.nodup_nil, fun _ => rfl⟩), (fun y hy => by simp at hy), (H3.takes [0, 1] (by decide))⟩ ?_
  rintro ⟨i, M, tw⟩ wq4 ⟨hi, hM, htw, hva, H5⟩
  replace H5 : S wq4 [Mp (Value.int .i64) Value.bool okI mg1 M, Old w no] := H5
  refine g_weak [(0, .slice p n c), (3, .map (some mg1)), (4, .bool tw), (8, .slice p n c), (9, .int .i64 ((n : Int))), (10, .int .i64 ((i : Int)))] ⟨rfl, rfl, rfl, rfl, rfl, rfl, trivial⟩ ?_
  refine g_seq ?_
  refine g_region ?_
  refine l_of (s_val (v := .bool (decide (((i : Int) : Int) < (n : Int)))) (wt0 rfl) rfl rfl (x_bin rfl rfl rfl b_lss) ?_)
  refine g_nil ?_
  refine g_then ?_
  refine g_seq ?_
  by_cases hb6 : ((i : Int) : Int) < (n : Int)
  · skip
    refine g_cond_t rfl (decide_eq_true hb6) ?_
    refine g_skip ?_
    refine g_then ?_
    refine g_seq ?_
    refine g_block ?_
    refine g_seq ?_
    refine g_region ?_
    refine l_of (s_val (v := .pointer ((p).map fun q => q.add (i * 6))) (wt0 rfl) rfl rfl (x_idxR i (H5.exReads (k := 1) rfl hr (fun _ _ _ h => h)) rfl rfl rfl Try.underlying33 sz57 (by omega)) ?_)
    have hlq := (H5.exReads (k := 1) rfl hr (fun _ _ _ h => h)).lenL rtE
    obtain ⟨x7, hx7⟩ := ex_at (l := l) (j := i) (by omega)
    clear hlq
    refine l_of (s_val (v := .agg #[.int .i64 (x7.peer), .bool x7.wants, .int .i64 (x7.gave), .int .i64 (x7.got), .bool x7.snb, .int .i64 (x7.lt)]) (wt0 rfl) rfl rfl (x_loadRA (vs := rtL x7) i (H5.exReads (k := 1) rfl hr (fun _ _ _ h => h)) (by omega) rfl rfl Try.underlying57 rfl sz57 (by rfl) (rtE.flAt hx7)) ?_)
    refine l_of (s_alloc H5 (wt0 rfl) rfl rfl rfl ze57 ?_)
    intro g8 wq9 H10
    refine l_of (s_store H10 0 (wt0 rfl) rfl rfl rfl rfl rfl sz57 rfl rfl (cs' := #[.int .i64 (x7.peer), .bool x7.wants, .int .i64 (x7.gave), .int .i64 (x7.got), .bool x7.snb, .int .i64 (x7.lt)]) rfl ?_)
    intro wq11 H12
    refine g_nil ?_
    refine g_then ?_
    refine g_seq ?_
    refine g_seq ?_
    refine g_region ?_
    refine l_of (s_val (v := .pointer (some ⟨g8, 0, none⟩)) (wt0 rfl) rfl rfl (x_fieldAddr rfl rfl fo57_0 rfl) ?_)
    refine l_of (s_val (v := .int .i64 (x7.peer)) (wt0 rfl) rfl rfl (x_load1 H12 0 rfl rfl Try.underlying3 rfl rfl rfl) ?_)
    refine l_of (s_val (v := .bool (decide ((x7.peer : Int) < 0))) (wt0 rfl) rfl rfl (x_bin rfl rfl rfl b_lss) ?_)
    refine l_of (s_val (v := .bool (decide ((x7.peer : Int) < 0))) (wt0 rfl) rfl rfl (x_move rfl rfl) ?_)
    by_cases hb13 : (x7.peer : Int) < 0
    · skip
      refine l_of (s_not (wn1 rfl rfl rfl rfl (decide_eq_true hb13)) rfl rfl ?_)
      refine l_of (s_not (wn1 rfl rfl rfl rfl (decide_eq_true hb13)) rfl rfl ?_)
      refine l_of (s_not (wn1 rfl rfl rfl rfl (decide_eq_true hb13)) rfl rfl ?_)
      refine l_of (s_val (v := .bool true) (wt0 rfl) rfl rfl (x_pick_t rfl rfl (decide_eq_true hb13) rfl) ?_)
      refine l_of (s_val (v := .bool true) (wt0 rfl) rfl rfl (x_move rfl rfl) ?_)
      refine l_of (s_not (wn1 rfl rfl rfl rfl rfl) rfl rfl ?_)
      refine l_of (s_not (wn1 rfl rfl rfl rfl rfl) rfl rfl ?_)
      refine l_of (s_not (wn1 rfl rfl rfl rfl rfl) rfl rfl ?_)
      refine l_of (s_val (v := .bool true) (wt0 rfl) rfl rfl (x_pick_t rfl rfl rfl rfl) ?_)
      refine l_of (s_val (v := .bool true) (wt0 rfl) rfl rfl (x_move rfl rfl) ?_)
      refine l_of (s_not (wn1 rfl rfl rfl rfl rfl) rfl rfl ?_)
      refine l_of (s_not (wn1 rfl rfl rfl rfl rfl) rfl rfl ?_)
      refine l_of (s_not (wn1 rfl rfl rfl rfl rfl) rfl rfl ?_)
      refine l_of (s_val (v := .bool true) (wt0 rfl) rfl rfl (x_pick_t rfl rfl rfl rfl) ?_)
      refine g_nil ?_
      refine g_then ?_
      refine g_weak [(0, .slice p n c), (3, .map (some mg1)), (4, .bool tw), (6, .pointer (some ⟨g8, 0, none⟩)), (8, .slice p n c), (9, .int .i64 ((n : Int))), (10, .int .i64 ((i : Int))), (31, .bool true)] ⟨rfl, rfl, rfl, rfl, rfl, rfl, rfl, rfl, trivial⟩ ?_
      refine g_cond_t rfl rfl ?_
      refine g_seq ?_
      refine g_region ?_
      refine l_of (s_val (v := .int .i64 1) (wt0 rfl) rfl rfl (x_assign rfl rfl) ?_)
      refine g_nil ?_
      refine g_then ?_
      refine g_ret ?_
      refine g_then_ret ?_
      refine g_in_ret ?_
      refine g_then_ret ?_
      refine g_then_ret ?_
      refine g_in_ret ?_
      refine g_then_ret ?_
      refine fin_ret [.tmp 2] [.int .i64 1] rfl ⟨rfl, trivial⟩ ?_
      have hv : rtErr l 0 0 = 1 := rt_1 (.inr (List.any_eq_true.2 ⟨_, List.mem_of_getElem? hx7, by unfold rtBad; simp only [Bool.or_eq_true, decide_eq_true_eq]; omega⟩))
      exact ⟨by rw [hv]; rfl, H12.mask [false, false, true]⟩
    · skip
      refine l_of (s_val (v := .pointer (some ⟨g8, 2, none⟩)) (wt1 rfl rfl rfl rfl (decide_eq_false hb13)) rfl rfl (x_fieldAddr rfl rfl fo57_2 rfl) ?_)
      refine l_of (s_val (v := .int .i64 (x7.gave)) (wt1 rfl rfl rfl rfl (decide_eq_false hb13)) rfl rfl (x_load1 H12 0 rfl rfl Try.underlying3 rfl rfl rfl) ?_)
      refine l_of (s_val (v := .bool (decide ((x7.gave : Int) < 0))) (wt1 rfl rfl rfl rfl (decide_eq_false hb13)) rfl rfl (x_bin rfl rfl rfl b_lss) ?_)
      refine l_of (s_val (v := .bool (decide ((x7.gave : Int) < 0))) (wt0 rfl) rfl rfl (x_pick_f rfl rfl (decide_eq_false hb13) rfl) ?_)
      refine l_of (s_val (v := .bool (decide ((x7.gave : Int) < 0))) (wt0 rfl) rfl rfl (x_move rfl rfl) ?_)
      by_cases hb14 : (x7.gave : Int) < 0
      · skip
        refine l_of (s_not (wn1 rfl rfl rfl rfl (decide_eq_true hb14)) rfl rfl ?_)
        refine l_of (s_not (wn1 rfl rfl rfl rfl (decide_eq_true hb14)) rfl rfl ?_)
        refine l_of (s_not (wn1 rfl rfl rfl rfl (decide_eq_true hb14)) rfl rfl ?_)
        refine l_of (s_val (v := .bool true) (wt0 rfl) rfl rfl (x_pick_t rfl rfl (decide_eq_true hb14) rfl) ?_)
        refine l_of (s_val (v := .bool true) (wt0 rfl) rfl rfl (x_move rfl rfl) ?_)
        refine l_of (s_not (wn1 rfl rfl rfl rfl rfl) rfl rfl ?_)
        refine l_of (s_not (wn1 rfl rfl rfl rfl rfl) rfl rfl ?_)
        refine l_of (s_not (wn1 rfl rfl rfl rfl rfl) rfl rfl ?_)
        refine l_of (s_val (v := .bool true) (wt0 rfl) rfl rfl (x_pick_t rfl rfl rfl rfl) ?_)
        refine g_nil ?_
        refine g_then ?_
        refine g_weak [(0, .slice p n c), (3, .map (some mg1)), (4, .bool tw), (6, .pointer (some ⟨g8, 0, none⟩)), (8, .slice p n c), (9, .int .i64 ((n : Int))), (10, .int .i64 ((i : Int))), (31, .bool true)] ⟨rfl, rfl, rfl, rfl, rfl, rfl, rfl, rfl, trivial⟩ ?_
        refine g_cond_t rfl rfl ?_
        refine g_seq ?_
        refine g_region ?_
        refine l_of (s_val (v := .int .i64 1) (wt0 rfl) rfl rfl (x_assign rfl rfl) ?_)
        refine g_nil ?_
        refine g_then ?_
        refine g_ret ?_
        refine g_then_ret ?_
        refine g_in_ret ?_
        refine g_then_ret ?_
        refine g_then_ret ?_
        refine g_in_ret ?_
        refine g_then_ret ?_
        refine fin_ret [.tmp 2] [.int .i64 1] rfl ⟨rfl, trivial⟩ ?_
        have hv : rtErr l 0 0 = 1 := rt_1 (.inr (List.any_eq_true.2 ⟨_, List.mem_of_getElem? hx7, by unfold rtBad; simp only [Bool.or_eq_true, decide_eq_true_eq]; omega⟩))
        exact ⟨by rw [hv]; rfl, H12.mask [false, false, true]⟩
      · skip
        refine l_of (s_val (v := .pointer (some ⟨g8, 3, none⟩)) (wt1 rfl rfl rfl rfl (decide_eq_false hb14)) rfl rfl (x_fieldAddr rfl rfl fo57_3 rfl) ?_)
        refine l_of (s_val (v := .int .i64 (x7.got)) (wt1 rfl rfl rfl rfl (decide_eq_false hb14)) rfl rfl (x_load1 H12 0 rfl rfl Try.underlying3 rfl rfl rfl) ?_)
        refine l_of (s_val (v := .bool (decide ((x7.got : Int) < 0))) (wt1 rfl rfl rfl rfl (decide_eq_false hb14)) rfl rfl (x_bin rfl rfl rfl b_lss) ?_)
        refine l_of (s_val (v := .bool (decide ((x7.got : Int) < 0))) (wt0 rfl) rfl rfl (x_pick_f rfl rfl (decide_eq_false hb14) rfl) ?_)
        refine l_of (s_val (v := .bool (decide ((x7.got : Int) < 0))) (wt0 rfl) rfl rfl (x_move rfl rfl) ?_)
        by_cases hb15 : (x7.got : Int) < 0
        · skip
          refine l_of (s_not (wn1 rfl rfl rfl rfl (decide_eq_true hb15)) rfl rfl ?_)
          refine l_of (s_not (wn1 rfl rfl rfl rfl (decide_eq_true hb15)) rfl rfl ?_)
          refine l_of (s_not (wn1 rfl rfl rfl rfl (decide_eq_true hb15)) rfl rfl ?_)
          refine l_of (s_val (v := .bool true) (wt0 rfl) rfl rfl (x_pick_t rfl rfl (decide_eq_true hb15) rfl) ?_)
          refine g_nil ?_
          refine g_then ?_
          refine g_weak [(0, .slice p n c), (3, .map (some mg1)), (4, .bool tw), (6, .pointer (some ⟨g8, 0, none⟩)), (8, .slice p n c), (9, .int .i64 ((n : Int))), (10, .int .i64 ((i : Int))), (31, .bool true)] ⟨rfl, rfl, rfl, rfl, rfl, rfl, rfl, rfl, trivial⟩ ?_
          refine g_cond_t rfl rfl ?_
          refine g_seq ?_
          refine g_region ?_
          refine l_of (s_val (v := .int .i64 1) (wt0 rfl) rfl rfl (x_assign rfl rfl) ?_)
          refine g_nil ?_
          refine g_then ?_
          refine g_ret ?_
          refine g_then_ret ?_
          refine g_in_ret ?_
          refine g_then_ret ?_
          refine g_then_ret ?_
          refine g_in_ret ?_
          refine g_then_ret ?_
          refine fin_ret [.tmp 2] [.int .i64 1] rfl ⟨rfl, trivial⟩ ?_
          have hv : rtErr l 0 0 = 1 := rt_1 (.inr (List.any_eq_true.2 ⟨_, List.mem_of_getElem? hx7, by unfold rtBad; simp only [Bool.or_eq_true, decide_eq_true_eq]; omega⟩))
          exact ⟨by rw [hv]; rfl, H12.mask [false, false, true]⟩
        · skip
          refine l_of (s_val (v := .pointer (some ⟨g8, 5, none⟩)) (wt1 rfl rfl rfl rfl (decide_eq_false hb15)) rfl rfl (x_fieldAddr rfl rfl fo57_5 rfl) ?_)
          refine l_of (s_val (v := .int .i64 (x7.lt)) (wt1 rfl rfl rfl rfl (decide_eq_false hb15)) rfl rfl (x_load1 H12 0 rfl rfl Try.underlying3 rfl rfl rfl) ?_)
          refine l_of (s_val (v := .bool (decide ((x7.lt : Int) < 0))) (wt1 rfl rfl rfl rfl (decide_eq_false hb15)) rfl rfl (x_bin rfl rfl rfl b_lss) ?_)
          refine l_of (s_val (v := .bool (decide ((x7.lt : Int) < 0))) (wt0 rfl) rfl rfl (x_pick_f rfl rfl (decide_eq_false hb15) rfl) ?_)
          refine g_nil ?_
          refine g_then ?_
          refine g_weak [(0, .slice p n c), (3, .map (some mg1)), (4, .bool tw), (6, .pointer (some ⟨g8, 0, none⟩)), (8, .slice p n c), (9, .int .i64 ((n : Int))), (10, .int .i64 ((i : Int))), (31, .bool (decide ((x7.lt : Int) < 0)))] ⟨rfl, rfl, rfl, rfl, rfl, rfl, rfl, rfl, trivial⟩ ?_
          by_cases hb16 : (x7.lt : Int) < 0
          · skip
            refine g_cond_t rfl (decide_eq_true hb16) ?_
            refine g_seq ?_
            refine g_region ?_
            refine l_of (s_val (v := .int .i64 1) (wt0 rfl) rfl rfl (x_assign rfl rfl) ?_)
            refine g_nil ?_
            refine g_then ?_
            refine g_ret ?_
            refine g_then_ret ?_
            refine g_in_ret ?_
            refine g_then_ret ?_
            refine g_then_ret ?_
            refine g_in_ret ?_
            refine g_then_ret ?_
            refine fin_ret [.tmp 2] [.int .i64 1] rfl ⟨rfl, trivial⟩ ?_
            have hv : rtErr l 0 0 = 1 := rt_1 (.inr (List.any_eq_true.2 ⟨_, List.mem_of_getElem? hx7, by unfold rtBad; simp only [Bool.or_eq_true, decide_eq_true_eq]; omega⟩))
            exact ⟨by rw [hv]; rfl, H12.mask [false, false, true]⟩
          · skip
            refine g_cond_f rfl (decide_eq_false hb16) ?_
            refine g_skip ?_
            refine g_then ?_
            refine g_seq ?_
            refine g_region ?_
            refine l_of (s_val (v := .bool tw) (wt0 rfl) rfl rfl (x_move rfl rfl) ?_)
            refine l_of (s_val (v := .bool tw) (wt0 rfl) rfl rfl (x_move rfl rfl) ?_)
            rcases Bool.eq_false_or_eq_true (tw) with hb17 | hb17
            · skip
              refine l_of (s_not (wn1 rfl rfl rfl rfl hb17) rfl rfl ?_)
              refine l_of (s_not (wn1 rfl rfl rfl rfl hb17) rfl rfl ?_)
              refine l_of (s_not (wn1 rfl rfl rfl rfl hb17) rfl rfl ?_)
              refine l_of (s_not (wn1 rfl rfl rfl rfl hb17) rfl rfl ?_)
              refine l_of (s_val (v := .bool true) (wt0 rfl) rfl rfl (x_pick_t rfl rfl hb17 rfl) ?_)
              refine l_of (s_val (v := .bool true) (wt0 rfl) rfl rfl (x_assign rfl rfl) ?_)
              refine g_nil ?_
              refine g_then ?_
              refine g_region ?_
              refine l_of (s_val (v := .map (some mg1)) (wt0 rfl) rfl rfl (x_move rfl rfl) ?_)
              refine l_of (s_val (v := .pointer (some ⟨g8, 0, none⟩)) (wt0 rfl) rfl rfl (x_fieldAddr rfl rfl fo57_0 rfl) ?_)
              refine l_of (s_val (v := .int .i64 (x7.peer)) (wt0 rfl) rfl rfl (x_load1 H12 0 rfl rfl Try.underlying3 rfl rfl rfl) ?_)
              refine l_of (s_mapUpdate (x := x7.peer) (a := true) (intTy Try.underlying53 Try.underlying3) H12 1 (wt0 rfl) rfl rfl rfl rfl rfl rfl ((hok _ (List.mem_of_getElem? hx7)).1) ?_)
              intro wq18 H19
              replace H19 : S wq18 [Ob g8 (.cells #[.int .i64 (x7.peer), .bool x7.wants, .int .i64 (x7.gave), .int .i64 (x7.got), .bool x7.snb, .int .i64 (x7.lt)] 57 (0, 0)), Mp (Value.int .i64) Value.bool okI mg1 (upM M x7.peer true), Old w no] := H19
              refine g_nil ?_
              refine g_in ?_
              refine g_then ?_
              refine g_weak [(0, .slice p n c), (3, .map (some mg1)), (4, .bool true), (8, .slice p n c), (9, .int .i64 ((n : Int))), (10, .int .i64 ((i : Int)))] ⟨rfl, rfl, rfl, rfl, rfl, rfl, trivial⟩ ?_
              refine g_region ?_
              refine l_of (s_val (v := .int .i64 (((i + 1 : Nat) : Int))) (wt0 rfl) rfl rfl (x_bin rfl rfl rfl (b_add (by rw [w64 (by omega)]; omega))) ?_)
              refine l_of (s_val (v := .int .i64 (((i + 1 : Nat) : Int))) (wt0 rfl) rfl rfl (x_move rfl rfl) ?_)
              refine g_nil ?_
              refine g_then ?_
              refine g_round (i := (i, M, tw)) ((i + 1), (upM M x7.peer true), true) ?_ ?_ ?_
              · exact ⟨rfl, rfl, rfl, rfl, rfl, rfl, trivial⟩
              · exact ⟨by omega, (fun k => by rw [upM_has, hM k, Bool.eq_iff_iff, Bool.or_eq_true, decide_eq_true_iff, decide_eq_true_iff, decide_eq_true_iff, memP_nxt hx7]), (by rw [nodupP_nxt hx7, ← htw]; (try rw [hM x7.peer]); simp_all), (no_takeP hva hx7 (by unfold rtBad; simp only [Bool.or_eq_false_iff, decide_eq_false_iff_not]; omega)), (H19.takes [1, 2] (by decide))⟩
              · (try dsimp only); omega
            · skip
              refine l_of (s_val (v := .map (some mg1)) (wt1 rfl rfl rfl rfl hb17) rfl rfl (x_move rfl rfl) ?_)
              refine l_of (s_val (v := .pointer (some ⟨g8, 0, none⟩)) (wt1 rfl rfl rfl rfl hb17) rfl rfl (x_fieldAddr rfl rfl fo57_0 rfl) ?_)
              refine l_of (s_val (v := .int .i64 (x7.peer)) (wt1 rfl rfl rfl rfl hb17) rfl rfl (x_load1 H12 0 rfl rfl Try.underlying3 rfl rfl rfl) ?_)
              refine l_of (s_val (v := .bool (((M x7.peer).getD false))) (wt1 rfl rfl rfl rfl hb17) rfl rfl (ex_cast (x_lookup1 (x := x7.peer) (intTy Try.underlying53 Try.underlying3) H12 1 rfl rfl rfl rfl ((hok _ (List.mem_of_getElem? hx7)).1) ze4) (look_B _)) ?_)
              refine l_of (s_val (v := .bool (((M x7.peer).getD false))) (wt0 rfl) rfl rfl (x_pick_f rfl rfl hb17 rfl) ?_)
              refine l_of (s_val (v := .bool (((M x7.peer).getD false))) (wt0 rfl) rfl rfl (x_assign rfl rfl) ?_)
              refine g_nil ?_
              refine g_then ?_
              refine g_region ?_
              refine l_of (s_val (v := .map (some mg1)) (wt0 rfl) rfl rfl (x_move rfl rfl) ?_)
              refine l_of (s_val (v := .pointer (some ⟨g8, 0, none⟩)) (wt0 rfl) rfl rfl (x_fieldAddr rfl rfl fo57_0 rfl) ?_)
              refine l_of (s_val (v := .int .i64 (x7.peer)) (wt0 rfl) rfl rfl (x_load1 H12 0 rfl rfl Try.underlying3 rfl rfl rfl) ?_)
              refine l_of (s_mapUpdate (x := x7.peer) (a := true) (intTy Try.underlying53 Try.underlying3) H12 1 (wt0 rfl) rfl rfl rfl rfl rfl rfl ((hok _ (List.mem_of_getElem? hx7)).1) ?_)
              intro wq20 H21
              replace H21 : S wq20 [Ob g8 (.cells #[.int .i64 (x7.peer), .bool x7.wants, .int .i64 (x7.gave), .int .i64 (x7.got), .bool x7.snb, .int .i64 (x7.lt)] 57 (0, 0)), Mp (Value.int .i64) Value.bool okI mg1 (upM M x7.peer true), Old w no] := H21
              refine g_nil ?_
              refine g_in ?_
              refine g_then ?_
              refine g_weak [(0, .slice p n c), (3, .map (some mg1)), (4, .bool (((M x7.peer).getD false))), (8, .slice p n c), (9, .int .i64 ((n : Int))), (10, .int .i64 ((i : Int)))] ⟨rfl, rfl, rfl, rfl, rfl, rfl, trivial⟩ ?_
              refine g_region ?_
              refine l_of (s_val (v := .int .i64 (((i + 1 : Nat) : Int))) (wt0 rfl) rfl rfl (x_bin rfl rfl rfl (b_add (by rw [w64 (by omega)]; omega))) ?_)
              refine l_of (s_val (v := .int .i64 (((i + 1 : Nat) : Int))) (wt0 rfl) rfl rfl (x_move rfl rfl) ?_)
              refine g_nil ?_
              refine g_then ?_
              refine g_round (i := (i, M, tw)) ((i + 1), (upM M x7.peer true), ((M x7.peer).getD false)) ?_ ?_ ?_
              · exact ⟨rfl, rfl, rfl, rfl, rfl, rfl, trivial⟩
              · exact ⟨by omega, (fun k => by rw [upM_has, hM k, Bool.eq_iff_iff, Bool.or_eq_true, decide_eq_true_iff, decide_eq_true_iff, decide_eq_true_iff, memP_nxt hx7]), (by rw [nodupP_nxt hx7, ← htw]; (try rw [hM x7.peer]); simp_all), (no_takeP hva hx7 (by unfold rtBad; simp only [Bool.or_eq_false_iff, decide_eq_false_iff_not]; omega)), (H21.takes [1, 2] (by decide))⟩
              · (try dsimp only); omega
  · skip
    refine g_cond_f rfl (decide_eq_false hb6) ?_
    refine g_exit ?_
    refine g_then_exit ?_
    refine g_then_exit ?_
    refine g_in_hit ?_
    refine g_then ?_
    refine g_seq ?_
    refine g_block ?_
    refine g_seq ?_
    refine g_region ?_
    refine l_of (s_val (v := .slice p n c) (wt0 rfl) rfl rfl (x_move rfl rfl) ?_)
    refine l_of (s_val (v := .int .i64 ((n : Int))) (wt0 rfl) rfl rfl (x_lenl rfl rfl Try.underlying33) ?_)
    refine l_of (s_val (v := .bool (decide ((200 : Int) < (n : Int)))) (wt0 rfl) rfl rfl (x_bin rfl rfl rfl b_gtr) ?_)
    refine l_of (s_val (v := .bool (decide ((200 : Int) < (n : Int)))) (wt0 rfl) rfl rfl (x_assign rfl rfl) ?_)
    refine g_nil ?_
    refine g_then ?_
    by_cases hb22 : (200 : Int) < (n : Int)
    · skip
      refine g_cond_t rfl (decide_eq_true hb22) ?_
      refine g_seq ?_
      refine g_region ?_
      refine l_of (s_val (v := .int .i64 1) (wt0 rfl) rfl rfl (x_assign rfl rfl) ?_)
      refine g_nil ?_
      refine g_then ?_
      refine g_ret ?_
      refine g_in_ret ?_
      refine g_then_ret ?_
      refine fin_ret [.tmp 2] [.int .i64 1] rfl ⟨rfl, trivial⟩ ?_
      have hv : rtErr l 0 0 = 1 := rt_1 (.inl (by omega))
      exact ⟨by rw [hv]; rfl, H5.mask [false, true]⟩
    · skip
      refine g_cond_f rfl (decide_eq_false hb22) ?_
      refine g_seq ?_
      refine g_region ?_
      refine l_of (s_val (v := .bool tw) (wt0 rfl) rfl rfl (x_move rfl rfl) ?_)
      refine l_of (s_val (v := .bool tw) (wt0 rfl) rfl rfl (x_assign rfl rfl) ?_)
      refine g_nil ?_
      refine g_then ?_
      refine g_weak [(47, .bool tw)] ⟨rfl, trivial⟩ ?_
      rcases Bool.eq_false_or_eq_true (tw) with hb23 | hb23
      · skip
        refine g_cond_t rfl hb23 ?_
        refine g_seq ?_
        refine g_region ?_
        refine l_of (s_val (v := .int .i64 6) (wt0 rfl) rfl rfl (x_assign rfl rfl) ?_)
        refine g_nil ?_
        refine g_then ?_
        refine g_ret ?_
        refine g_in_ret ?_
        refine g_then_ret ?_
        refine fin_ret [.tmp 2] [.int .i64 6] rfl ⟨rfl, trivial⟩ ?_
        rw [List.take_of_length_le (by omega)] at htw hva
        have hv : rtErr l 0 0 = 6 := rt_6 (by rintro (h | h); omega; exact rtany_none hva h) (fun h => by have := htw.2 h; simp_all)
        exact ⟨by rw [hv]; rfl, H5.mask [false, true]⟩
      · skip
        refine g_cond_f rfl hb23 ?_
        refine g_skip ?_
        refine g_in ?_
        refine g_then ?_
        refine g_seq ?_
        refine g_region ?_
        refine l_of (s_val (v := .int .i64 0) (wt0 rfl) rfl rfl (x_assign rfl rfl) ?_)
        refine g_nil ?_
        refine g_then ?_
        refine g_ret ?_
        refine fin_ret [.tmp 2] [.int .i64 0] rfl ⟨rfl, trivial⟩ ?_
        rw [List.take_of_length_le (by omega)] at htw hva
        have hv : rtErr l 0 0 = 0 := rt_0 (by rintro (h | h); omega; exact rtany_none hva h) (htw.1 (by simp_all)) (by omega)
        exact ⟨by rw [hv]; rfl, H5.mask [false, true]⟩
set_option maxRecDepth 20000 in
set_option maxHeartbeats 4000000 in
set_option maxRecDepth 20000 in
set_option maxHeartbeats 4000000 in
theorem ahead_r (sd : Bool) (a b : Rt)  (w : World) : Calls Try.prog 47 #[.bool sd, .agg #[.int .i64 (a.peer), .bool a.wants, .int .i64 (a.gave), .int .i64 (a.got), .bool a.snb, .int .i64 (a.lt)], .agg #[.int .i64 (b.peer), .bool b.wants, .int .i64 (b.gave), .int .i64 (b.got), .bool b.snb, .int .i64 (b.lt)]] w fun e w' => e = .returned (.bool (decide (cF (toRv sd a) (toRv sd b) < 0))) ∧ S w' [Old w no] := by
  have H0 := S.old w
  refine enter 41 Try.func47 rfl rfl rfl ?_
  refine g_weak [(0, .bool sd), (1, .agg #[.int .i64 (a.peer), .bool a.wants, .int .i64 (a.gave), .int .i64 (a.got), .bool a.snb, .int .i64 (a.lt)]), (2, .agg #[.int .i64 (b.peer), .bool b.wants, .int .i64 (b.gave), .int .i64 (b.got), .bool b.snb, .int .i64 (b.lt)])] ⟨rfl, rfl, rfl, trivial⟩ ?_
  refine g_seq ?_
  refine g_region ?_
  refine l_of (s_box H0 (wt0 rfl) rfl rfl rfl rfl ?_)
  intro g1 wq2 H3
  refine l_of (s_box H3 (wt0 rfl) rfl rfl rfl rfl ?_)
  intro g4 wq5 H6
  refine l_of (s_val (v := .bool false) (wt0 rfl) rfl rfl (x_assign rfl rfl) ?_)
  refine g_nil ?_
  refine g_then ?_
  refine g_seq ?_
  refine g_quiet (by kernel_rfl) (by kernel_rfl) H6 ?_
  refine q_val (v := .pointer (some ⟨g1, 2, none⟩)) (wt0 rfl) rfl rfl (fun wx H => x_fieldAddr rfl rfl fo57_2 rfl) ?_
  refine q_val (v := .int .i64 (a.gave)) (wt0 rfl) rfl rfl (fun wx H => x_load1 H 1 rfl rfl Try.underlying3 rfl rfl rfl) ?_
  refine q_val (v := .pointer (some ⟨g4, 2, none⟩)) (wt0 rfl) rfl rfl (fun wx H => x_fieldAddr rfl rfl fo57_2 rfl) ?_
  refine q_val (v := .int .i64 (b.gave)) (wt0 rfl) rfl rfl (fun wx H => x_load1 H 0 rfl rfl Try.underlying3 rfl rfl rfl) ?_
  refine q_val (v := .int .i64 (a.gave)) (wt0 rfl) rfl rfl (fun wx H => x_assign rfl rfl) ?_
  refine q_val (v := .int .i64 (b.gave)) (wt0 rfl) rfl rfl (fun wx H => x_assign rfl rfl) ?_
  refine q_nil (fun wq7 H8 => ?_)
  refine g_then ?_
  refine g_seq ?_
  refine g_seq ?_
  refine g_region ?_
  refine l_of (s_val (v := .bool sd) (wt0 rfl) rfl rfl (x_move rfl rfl) ?_)
  refine g_nil ?_
  refine g_then ?_
  rcases Bool.eq_false_or_eq_true (sd) with hb9 | hb9
  · skip
    refine g_cond_t rfl hb9 ?_
    refine g_quiet (by kernel_rfl) (by kernel_rfl) H8 ?_
    refine q_val (v := .pointer (some ⟨g1, 3, none⟩)) (wt0 rfl) rfl rfl (fun wx H => x_fieldAddr rfl rfl fo57_3 rfl) ?_
    refine q_val (v := .int .i64 (a.got)) (wt0 rfl) rfl rfl (fun wx H => x_load1 H 1 rfl rfl Try.underlying3 rfl rfl rfl) ?_
    refine q_val (v := .pointer (some ⟨g4, 3, none⟩)) (wt0 rfl) rfl rfl (fun wx H => x_fieldAddr rfl rfl fo57_3 rfl) ?_
    refine q_val (v := .int .i64 (b.got)) (wt0 rfl) rfl rfl (fun wx H => x_load1 H 0 rfl rfl Try.underlying3 rfl rfl rfl) ?_
    refine q_val (v := .int .i64 (a.got)) (wt0 rfl) rfl rfl (fun wx H => x_assign rfl rfl) ?_
    refine q_val (v := .int .i64 (b.got)) (wt0 rfl) rfl rfl (fun wx H => x_assign rfl rfl) ?_
    refine q_nil (fun wq10 H11 => ?_)
    refine g_then ?_
    refine g_weak [(4, .pointer (some ⟨g1, 0, none⟩)), (5, .pointer (some ⟨g4, 0, none⟩)), (7, .int .i64 (a.got)), (8, .int .i64 (b.got))] ⟨rfl, rfl, rfl, rfl, trivial⟩ ?_
    refine g_seq ?_
    refine g_block ?_
    refine g_seq ?_
    refine g_region ?_
    refine l_of (s_val (v := .int .i64 (a.got)) (wt0 rfl) rfl rfl (x_move rfl rfl) ?_)
    refine l_of (s_val (v := .int .i64 (b.got)) (wt0 rfl) rfl rfl (x_move rfl rfl) ?_)
    refine l_of (s_val (v := .bool (!decide ((a.got : Int) = b.got))) (wt0 rfl) rfl rfl (x_bin rfl rfl rfl b_neq) ?_)
    refine l_of (s_val (v := .bool (!decide ((a.got : Int) = b.got))) (wt0 rfl) rfl rfl (x_assign rfl rfl) ?_)
    refine g_nil ?_
    refine g_then ?_
    by_cases hb12 : (a.got : Int) = b.got
    · skip
      refine g_cond_f rfl (nf hb12) ?_
      refine g_seq ?_
      refine g_region ?_
      refine l_of (s_val (v := .pointer (some ⟨g1, 5, none⟩)) (wt0 rfl) rfl rfl (x_fieldAddr rfl rfl fo57_5 rfl) ?_)
      refine l_of (s_val (v := .int .i64 (a.lt)) (wt0 rfl) rfl rfl (x_load1 H11 1 rfl rfl Try.underlying3 rfl rfl rfl) ?_)
      refine l_of (s_val (v := .pointer (some ⟨g4, 5, none⟩)) (wt0 rfl) rfl rfl (x_fieldAddr rfl rfl fo57_5 rfl) ?_)
      refine l_of (s_val (v := .int .i64 (b.lt)) (wt0 rfl) rfl rfl (x_load1 H11 0 rfl rfl Try.underlying3 rfl rfl rfl) ?_)
      refine l_of (s_val (v := .bool (!decide ((a.lt : Int) = b.lt))) (wt0 rfl) rfl rfl (x_bin rfl rfl rfl b_neq) ?_)
      refine l_of (s_val (v := .bool (!decide ((a.lt : Int) = b.lt))) (wt0 rfl) rfl rfl (x_assign rfl rfl) ?_)
      refine g_nil ?_
      refine g_then ?_
      by_cases hb13 : (a.lt : Int) = b.lt
      · skip
        refine g_cond_f rfl (nf hb13) ?_
        refine g_skip ?_
        refine g_in ?_
        refine g_then ?_
        refine g_weak [(4, .pointer (some ⟨g1, 0, none⟩)), (5, .pointer (some ⟨g4, 0, none⟩))] ⟨rfl, rfl, trivial⟩ ?_
        refine g_seq ?_
        refine g_region ?_
        refine l_of (s_val (v := .pointer (some ⟨g1, 0, none⟩)) (wt0 rfl) rfl rfl (x_fieldAddr rfl rfl fo57_0 rfl) ?_)
        refine l_of (s_val (v := .int .i64 (a.peer)) (wt0 rfl) rfl rfl (x_load1 H11 1 rfl rfl Try.underlying3 rfl rfl rfl) ?_)
        refine l_of (s_val (v := .pointer (some ⟨g4, 0, none⟩)) (wt0 rfl) rfl rfl (x_fieldAddr rfl rfl fo57_0 rfl) ?_)
        refine l_of (s_val (v := .int .i64 (b.peer)) (wt0 rfl) rfl rfl (x_load1 H11 0 rfl rfl Try.underlying3 rfl rfl rfl) ?_)
        refine l_of (s_val (v := .bool (decide ((a.peer : Int) < b.peer))) (wt0 rfl) rfl rfl (x_bin rfl rfl rfl b_lss) ?_)
        refine l_of (s_val (v := .bool (decide ((a.peer : Int) < b.peer))) (wt0 rfl) rfl rfl (x_assign rfl rfl) ?_)
        refine g_nil ?_
        refine g_then ?_
        refine g_ret ?_
        refine fin_ret [.tmp 6] [.bool (decide ((a.peer : Int) < b.peer))] rfl ⟨rfl, trivial⟩ ?_
        have hv : (cF (toRv sd a) (toRv sd b) < 0) ↔ (a.peer : Int) < b.peer := by
          unfold cF toRv
          simp only [hb9, reduceIte, Bool.false_eq_true, ne_eq, decide_eq_true_eq, ite_not]
          repeat' split
          all_goals omega
        exact ⟨by rw [decide_eq_decide.2 hv]; first | rfl | simp, H11.mask [false, false, true]⟩
      · skip
        refine g_cond_t rfl (nt hb13) ?_
        refine g_seq ?_
        refine g_region ?_
        refine l_of (s_val (v := .pointer (some ⟨g1, 5, none⟩)) (wt0 rfl) rfl rfl (x_fieldAddr rfl rfl fo57_5 rfl) ?_)
        refine l_of (s_val (v := .int .i64 (a.lt)) (wt0 rfl) rfl rfl (x_load1 H11 1 rfl rfl Try.underlying3 rfl rfl rfl) ?_)
        refine l_of (s_val (v := .pointer (some ⟨g4, 5, none⟩)) (wt0 rfl) rfl rfl (x_fieldAddr rfl rfl fo57_5 rfl) ?_)
        refine l_of (s_val (v := .int .i64 (b.lt)) (wt0 rfl) rfl rfl (x_load1 H11 0 rfl rfl Try.underlying3 rfl rfl rfl) ?_)
        refine l_of (s_val (v := .bool (decide ((a.lt : Int) < b.lt))) (wt0 rfl) rfl rfl (x_bin rfl rfl rfl b_lss) ?_)
        refine l_of (s_val (v := .bool (decide ((a.lt : Int) < b.lt))) (wt0 rfl) rfl rfl (x_assign rfl rfl) ?_)
        refine g_nil ?_
        refine g_then ?_
        refine g_weak [(6, .bool (decide ((a.lt : Int) < b.lt)))] ⟨rfl, trivial⟩ ?_
        refine g_ret ?_
        refine g_in_ret ?_
        refine g_then_ret ?_
        refine fin_ret [.tmp 6] [.bool (decide ((a.lt : Int) < b.lt))] rfl ⟨rfl, trivial⟩ ?_
        have hv : (cF (toRv sd a) (toRv sd b) < 0) ↔ (a.lt : Int) < b.lt := by
          unfold cF toRv
          simp only [hb9, reduceIte, Bool.false_eq_true, ne_eq, decide_eq_true_eq, ite_not]
          repeat' split
          all_goals omega
        exact ⟨by rw [decide_eq_decide.2 hv]; first | rfl | simp, H11.mask [false, false, true]⟩
    · skip
      refine g_cond_t rfl (nt hb12) ?_
      refine g_seq ?_
      refine g_region ?_
      refine l_of (s_val (v := .int .i64 (a.got)) (wt0 rfl) rfl rfl (x_move rfl rfl) ?_)
      refine l_of (s_val (v := .int .i64 (b.got)) (wt0 rfl) rfl rfl (x_move rfl rfl) ?_)
      refine l_of (s_val (v := .bool (decide ((b.got : Int) < a.got))) (wt0 rfl) rfl rfl (x_bin rfl rfl rfl b_gtr) ?_)
      refine l_of (s_val (v := .bool (decide ((b.got : Int) < a.got))) (wt0 rfl) rfl rfl (x_assign rfl rfl) ?_)
      refine g_nil ?_
      refine g_then ?_
      refine g_ret ?_
      refine g_in_ret ?_
      refine g_then_ret ?_
      refine fin_ret [.tmp 6] [.bool (decide ((b.got : Int) < a.got))] rfl ⟨rfl, trivial⟩ ?_
      have hv : (cF (toRv sd a) (toRv sd b) < 0) ↔ (b.got : Int) < a.got := by
        unfold cF toRv
        simp only [hb9, reduceIte, Bool.false_eq_true, ne_eq, decide_eq_true_eq, ite_not]
        repeat' split
        all_goals omega
      exact ⟨by rw [decide_eq_decide.2 hv]; first | rfl | simp, H11.mask [false, false, true]⟩
  · skip
    refine g_cond_f rfl hb9 ?_
    refine g_skip ?_
    refine g_then ?_
    refine g_seq ?_
    refine g_block ?_
    refine g_seq ?_
    refine g_region ?_
    refine l_of (s_val (v := .int .i64 (a.gave)) (wt0 rfl) rfl rfl (x_move rfl rfl) ?_)
    refine l_of (s_val (v := .int .i64 (b.gave)) (wt0 rfl) rfl rfl (x_move rfl rfl) ?_)
    refine l_of (s_val (v := .bool (!decide ((a.gave : Int) = b.gave))) (wt0 rfl) rfl rfl (x_bin rfl rfl rfl b_neq) ?_)
    refine l_of (s_val (v := .bool (!decide ((a.gave : Int) = b.gave))) (wt0 rfl) rfl rfl (x_assign rfl rfl) ?_)
    refine g_nil ?_
    refine g_then ?_
    refine g_weak [(4, .pointer (some ⟨g1, 0, none⟩)), (5, .pointer (some ⟨g4, 0, none⟩)), (7, .int .i64 (a.gave)), (8, .int .i64 (b.gave)), (18, .bool (!decide ((a.gave : Int) = b.gave)))] ⟨rfl, rfl, rfl, rfl, rfl, trivial⟩ ?_
    by_cases hb14 : (a.gave : Int) = b.gave
    · skip
      refine g_cond_f rfl (nf hb14) ?_
      refine g_seq ?_
      refine g_region ?_
      refine l_of (s_val (v := .pointer (some ⟨g1, 5, none⟩)) (wt0 rfl) rfl rfl (x_fieldAddr rfl rfl fo57_5 rfl) ?_)
      refine l_of (s_val (v := .int .i64 (a.lt)) (wt0 rfl) rfl rfl (x_load1 H8 1 rfl rfl Try.underlying3 rfl rfl rfl) ?_)
      refine l_of (s_val (v := .pointer (some ⟨g4, 5, none⟩)) (wt0 rfl) rfl rfl (x_fieldAddr rfl rfl fo57_5 rfl) ?_)
      refine l_of (s_val (v := .int .i64 (b.lt)) (wt0 rfl) rfl rfl (x_load1 H8 0 rfl rfl Try.underlying3 rfl rfl rfl) ?_)
      refine l_of (s_val (v := .bool (!decide ((a.lt : Int) = b.lt))) (wt0 rfl) rfl rfl (x_bin rfl rfl rfl b_neq) ?_)
      refine l_of (s_val (v := .bool (!decide ((a.lt : Int) = b.lt))) (wt0 rfl) rfl rfl (x_assign rfl rfl) ?_)
      refine g_nil ?_
      refine g_then ?_
      by_cases hb15 : (a.lt : Int) = b.lt
      · skip
        refine g_cond_f rfl (nf hb15) ?_
        refine g_skip ?_
        refine g_in ?_
        refine g_then ?_
        refine g_seq ?_
        refine g_region ?_
        refine l_of (s_val (v := .pointer (some ⟨g1, 0, none⟩)) (wt0 rfl) rfl rfl (x_fieldAddr rfl rfl fo57_0 rfl) ?_)
        refine l_of (s_val (v := .int .i64 (a.peer)) (wt0 rfl) rfl rfl (x_load1 H8 1 rfl rfl Try.underlying3 rfl rfl rfl) ?_)
        refine l_of (s_val (v := .pointer (some ⟨g4, 0, none⟩)) (wt0 rfl) rfl rfl (x_fieldAddr rfl rfl fo57_0 rfl) ?_)
        refine l_of (s_val (v := .int .i64 (b.peer)) (wt0 rfl) rfl rfl (x_load1 H8 0 rfl rfl Try.underlying3 rfl rfl rfl) ?_)
        refine l_of (s_val (v := .bool (decide ((a.peer : Int) < b.peer))) (wt0 rfl) rfl rfl (x_bin rfl rfl rfl b_lss) ?_)
        refine l_of (s_val (v := .bool (decide ((a.peer : Int) < b.peer))) (wt0 rfl) rfl rfl (x_assign rfl rfl) ?_)
        refine g_nil ?_
        refine g_then ?_
        refine g_weak [(6, .bool (decide ((a.peer : Int) < b.peer)))] ⟨rfl, trivial⟩ ?_
        refine g_ret ?_
        refine fin_ret [.tmp 6] [.bool (decide ((a.peer : Int) < b.peer))] rfl ⟨rfl, trivial⟩ ?_
        have hv : (cF (toRv sd a) (toRv sd b) < 0) ↔ (a.peer : Int) < b.peer := by
          unfold cF toRv
          simp only [hb9, reduceIte, Bool.false_eq_true, ne_eq, decide_eq_true_eq, ite_not]
          repeat' split
          all_goals omega
        exact ⟨by rw [decide_eq_decide.2 hv]; first | rfl | simp, H8.mask [false, false, true]⟩
      · skip
        refine g_cond_t rfl (nt hb15) ?_
        refine g_seq ?_
        refine g_region ?_
        refine l_of (s_val (v := .pointer (some ⟨g1, 5, none⟩)) (wt0 rfl) rfl rfl (x_fieldAddr rfl rfl fo57_5 rfl) ?_)
        refine l_of (s_val (v := .int .i64 (a.lt)) (wt0 rfl) rfl rfl (x_load1 H8 1 rfl rfl Try.underlying3 rfl rfl rfl) ?_)
        refine l_of (s_val (v := .pointer (some ⟨g4, 5, none⟩)) (wt0 rfl) rfl rfl (x_fieldAddr rfl rfl fo57_5 rfl) ?_)
        refine l_of (s_val (v := .int .i64 (b.lt)) (wt0 rfl) rfl rfl (x_load1 H8 0 rfl rfl Try.underlying3 rfl rfl rfl) ?_)
        refine l_of (s_val (v := .bool (decide ((a.lt : Int) < b.lt))) (wt0 rfl) rfl rfl (x_bin rfl rfl rfl b_lss) ?_)
        refine l_of (s_val (v := .bool (decide ((a.lt : Int) < b.lt))) (wt0 rfl) rfl rfl (x_assign rfl rfl) ?_)
        refine g_nil ?_
        refine g_then ?_
        refine g_weak [(6, .bool (decide ((a.lt : Int) < b.lt)))] ⟨rfl, trivial⟩ ?_
        refine g_ret ?_
        refine g_in_ret ?_
        refine g_then_ret ?_
        refine fin_ret [.tmp 6] [.bool (decide ((a.lt : Int) < b.lt))] rfl ⟨rfl, trivial⟩ ?_
        have hv : (cF (toRv sd a) (toRv sd b) < 0) ↔ (a.lt : Int) < b.lt := by
          unfold cF toRv
          simp only [hb9, reduceIte, Bool.false_eq_true, ne_eq, decide_eq_true_eq, ite_not]
          repeat' split
          all_goals omega
        exact ⟨by rw [decide_eq_decide.2 hv]; first | rfl | simp, H8.mask [false, false, true]⟩
    · skip
      refine g_cond_t rfl (nt hb14) ?_
      refine g_seq ?_
      refine g_region ?_
      refine l_of (s_val (v := .int .i64 (a.gave)) (wt0 rfl) rfl rfl (x_move rfl rfl) ?_)
      refine l_of (s_val (v := .int .i64 (b.gave)) (wt0 rfl) rfl rfl (x_move rfl rfl) ?_)
      refine l_of (s_val (v := .bool (decide ((b.gave : Int) < a.gave))) (wt0 rfl) rfl rfl (x_bin rfl rfl rfl b_gtr) ?_)
      refine l_of (s_val (v := .bool (decide ((b.gave : Int) < a.gave))) (wt0 rfl) rfl rfl (x_assign rfl rfl) ?_)
      refine g_nil ?_
      refine g_then ?_
      refine g_ret ?_
      refine g_in_ret ?_
      refine g_then_ret ?_
      refine fin_ret [.tmp 6] [.bool (decide ((b.gave : Int) < a.gave))] rfl ⟨rfl, trivial⟩ ?_
      have hv : (cF (toRv sd a) (toRv sd b) < 0) ↔ (b.gave : Int) < a.gave := by
        unfold cF toRv
        simp only [hb9, reduceIte, Bool.false_eq_true, ne_eq, decide_eq_true_eq, ite_not]
        repeat' split
        all_goals omega
      exact ⟨by rw [decide_eq_decide.2 hv]; first | rfl | simp, H8.mask [false, false, true]⟩
set_option maxRecDepth 20000 in
set_option maxHeartbeats 4000000 in
set_option maxRecDepth 20000 in
set_option maxHeartbeats 4000000 in
theorem sooner_r (turn : Int) (sd : Bool) (a b : Rt)  (w : World) : Calls Try.prog 48 #[.int .i64 turn, .agg #[.int .i64 (a.peer), .bool a.wants, .int .i64 (a.gave), .int .i64 (a.got), .bool a.snb, .int .i64 (a.lt)], .agg #[.int .i64 (b.peer), .bool b.wants, .int .i64 (b.gave), .int .i64 (b.got), .bool b.snb, .int .i64 (b.lt)]] w fun e w' => e = .returned (.bool (decide (cR turn (toRv sd a) (toRv sd b) < 0))) ∧ S w' [Old w no] := by
  have H0 := S.old w
  refine enter 35 Try.func48 rfl rfl rfl ?_
  refine g_weak [(0, .int .i64 turn), (1, .agg #[.int .i64 (a.peer), .bool a.wants, .int .i64 (a.gave), .int .i64 (a.got), .bool a.snb, .int .i64 (a.lt)]), (2, .agg #[.int .i64 (b.peer), .bool b.wants, .int .i64 (b.gave), .int .i64 (b.got), .bool b.snb, .int .i64 (b.lt)])] ⟨rfl, rfl, rfl, trivial⟩ ?_
  refine g_seq ?_
  refine g_region ?_
  refine l_of (s_box H0 (wt0 rfl) rfl rfl rfl rfl ?_)
  intro g1 wq2 H3
  refine l_of (s_box H3 (wt0 rfl) rfl rfl rfl rfl ?_)
  intro g4 wq5 H6
  refine l_of (s_val (v := .bool false) (wt0 rfl) rfl rfl (x_assign rfl rfl) ?_)
  refine g_nil ?_
  refine g_then ?_
  refine g_seq ?_
  refine g_seq ?_
  refine g_region ?_
  refine l_of (s_val (v := .pointer (some ⟨g1, 5, none⟩)) (wt0 rfl) rfl rfl (x_fieldAddr rfl rfl fo57_5 rfl) ?_)
  refine l_of (s_val (v := .int .i64 (a.lt)) (wt0 rfl) rfl rfl (x_load1 H6 1 rfl rfl Try.underlying3 rfl rfl rfl) ?_)
  refine l_of (s_val (v := .pointer (some ⟨g4, 5, none⟩)) (wt0 rfl) rfl rfl (x_fieldAddr rfl rfl fo57_5 rfl) ?_)
  refine l_of (s_val (v := .int .i64 (b.lt)) (wt0 rfl) rfl rfl (x_load1 H6 0 rfl rfl Try.underlying3 rfl rfl rfl) ?_)
  refine l_of (s_val (v := .bool (!decide ((a.lt : Int) = b.lt))) (wt0 rfl) rfl rfl (x_bin rfl rfl rfl b_neq) ?_)
  refine g_nil ?_
  refine g_then ?_
  by_cases hb7 : (a.lt : Int) = b.lt
  · skip
    refine g_cond_f rfl (nf hb7) ?_
    refine g_skip ?_
    refine g_then ?_
    refine g_seq ?_
    refine g_seq ?_
    refine g_region ?_
    refine l_of (s_val (v := .pointer (some ⟨g1, 0, none⟩)) (wt0 rfl) rfl rfl (x_fieldAddr rfl rfl fo57_0 rfl) ?_)
    refine l_of (s_val (v := .int .i64 (a.peer)) (wt0 rfl) rfl rfl (x_load1 H6 1 rfl rfl Try.underlying3 rfl rfl rfl) ?_)
    refine l_of (s_val (v := .int .i64 turn) (wt0 rfl) rfl rfl (x_move rfl rfl) ?_)
    refine l_of (s_val (v := .bool (decide ((turn : Int) < a.peer))) (wt0 rfl) rfl rfl (x_bin rfl rfl rfl b_gtr) ?_)
    refine l_of (s_val (v := .pointer (some ⟨g4, 0, none⟩)) (wt0 rfl) rfl rfl (x_fieldAddr rfl rfl fo57_0 rfl) ?_)
    refine l_of (s_val (v := .int .i64 (b.peer)) (wt0 rfl) rfl rfl (x_load1 H6 0 rfl rfl Try.underlying3 rfl rfl rfl) ?_)
    refine l_of (s_val (v := .int .i64 turn) (wt0 rfl) rfl rfl (x_move rfl rfl) ?_)
    refine l_of (s_val (v := .bool (decide ((turn : Int) < b.peer))) (wt0 rfl) rfl rfl (x_bin rfl rfl rfl b_gtr) ?_)
    refine l_of (s_val (v := .bool (!((decide ((turn : Int) < a.peer)) == (decide ((turn : Int) < b.peer))))) (wt0 rfl) rfl rfl (x_bin rfl rfl rfl (b_neN Try.underlying4 rfl)) ?_)
    refine g_nil ?_
    refine g_then ?_
    refine g_weak [(0, .int .i64 turn), (4, .pointer (some ⟨g1, 0, none⟩)), (5, .pointer (some ⟨g4, 0, none⟩)), (25, .bool (!((decide ((turn : Int) < a.peer)) == (decide ((turn : Int) < b.peer)))))] ⟨rfl, rfl, rfl, rfl, trivial⟩ ?_
    rcases Bool.eq_false_or_eq_true ((decide ((turn : Int) < a.peer)) == (decide ((turn : Int) < b.peer))) with hb8 | hb8
    · skip
      have hq := hb8
      simp only [beq_iff_eq, beq_eq_false_iff_ne, ne_eq, decide_eq_decide] at hq
      refine g_cond_f rfl (neg_of hb8) ?_
      refine g_skip ?_
      refine g_then ?_
      refine g_seq ?_
      refine g_region ?_
      refine l_of (s_val (v := .pointer (some ⟨g1, 0, none⟩)) (wt0 rfl) rfl rfl (x_fieldAddr rfl rfl fo57_0 rfl) ?_)
      refine l_of (s_val (v := .int .i64 (a.peer)) (wt0 rfl) rfl rfl (x_load1 H6 1 rfl rfl Try.underlying3 rfl rfl rfl) ?_)
      refine l_of (s_val (v := .pointer (some ⟨g4, 0, none⟩)) (wt0 rfl) rfl rfl (x_fieldAddr rfl rfl fo57_0 rfl) ?_)
      refine l_of (s_val (v := .int .i64 (b.peer)) (wt0 rfl) rfl rfl (x_load1 H6 0 rfl rfl Try.underlying3 rfl rfl rfl) ?_)
      refine l_of (s_val (v := .bool (decide ((a.peer : Int) < b.peer))) (wt0 rfl) rfl rfl (x_bin rfl rfl rfl b_lss) ?_)
      refine l_of (s_val (v := .bool (decide ((a.peer : Int) < b.peer))) (wt0 rfl) rfl rfl (x_assign rfl rfl) ?_)
      refine g_nil ?_
      refine g_then ?_
      refine g_ret ?_
      refine fin_ret [.tmp 6] [.bool (decide ((a.peer : Int) < b.peer))] rfl ⟨rfl, trivial⟩ ?_
      have hv : (cR turn (toRv sd a) (toRv sd b) < 0) ↔ (a.peer : Int) < b.peer := by
        unfold cR bhd toRv
        simp only [reduceIte, Bool.false_eq_true, ne_eq, decide_eq_true_eq, ite_not]
        repeat' split
        all_goals omega
      exact ⟨by rw [decide_eq_decide.2 hv]; first | rfl | simp, H6.mask [false, false, true]⟩
    · skip
      have hq := hb8
      simp only [beq_iff_eq, beq_eq_false_iff_ne, ne_eq, decide_eq_decide] at hq
      refine g_cond_t rfl (neg_of hb8) ?_
      refine g_seq ?_
      refine g_region ?_
      refine l_of (s_val (v := .pointer (some ⟨g1, 0, none⟩)) (wt0 rfl) rfl rfl (x_fieldAddr rfl rfl fo57_0 rfl) ?_)
      refine l_of (s_val (v := .int .i64 (a.peer)) (wt0 rfl) rfl rfl (x_load1 H6 1 rfl rfl Try.underlying3 rfl rfl rfl) ?_)
      refine l_of (s_val (v := .int .i64 turn) (wt0 rfl) rfl rfl (x_move rfl rfl) ?_)
      refine l_of (s_val (v := .bool (decide ((turn : Int) < a.peer))) (wt0 rfl) rfl rfl (x_bin rfl rfl rfl b_gtr) ?_)
      refine l_of (s_val (v := .bool (decide ((turn : Int) < a.peer))) (wt0 rfl) rfl rfl (x_assign rfl rfl) ?_)
      refine g_nil ?_
      refine g_then ?_
      refine g_ret ?_
      refine g_then_ret ?_
      refine fin_ret [.tmp 6] [.bool (decide ((turn : Int) < a.peer))] rfl ⟨rfl, trivial⟩ ?_
      have hv : (cR turn (toRv sd a) (toRv sd b) < 0) ↔ (turn : Int) < a.peer := by
        unfold cR bhd toRv
        simp only [reduceIte, Bool.false_eq_true, ne_eq, decide_eq_true_eq, ite_not]
        repeat' split
        all_goals omega
      exact ⟨by rw [decide_eq_decide.2 hv]; first | rfl | simp, H6.mask [false, false, true]⟩
  · skip
    refine g_cond_t rfl (nt hb7) ?_
    refine g_seq ?_
    refine g_region ?_
    refine l_of (s_val (v := .pointer (some ⟨g1, 5, none⟩)) (wt0 rfl) rfl rfl (x_fieldAddr rfl rfl fo57_5 rfl) ?_)
    refine l_of (s_val (v := .int .i64 (a.lt)) (wt0 rfl) rfl rfl (x_load1 H6 1 rfl rfl Try.underlying3 rfl rfl rfl) ?_)
    refine l_of (s_val (v := .pointer (some ⟨g4, 5, none⟩)) (wt0 rfl) rfl rfl (x_fieldAddr rfl rfl fo57_5 rfl) ?_)
    refine l_of (s_val (v := .int .i64 (b.lt)) (wt0 rfl) rfl rfl (x_load1 H6 0 rfl rfl Try.underlying3 rfl rfl rfl) ?_)
    refine l_of (s_val (v := .bool (decide ((a.lt : Int) < b.lt))) (wt0 rfl) rfl rfl (x_bin rfl rfl rfl b_lss) ?_)
    refine l_of (s_val (v := .bool (decide ((a.lt : Int) < b.lt))) (wt0 rfl) rfl rfl (x_assign rfl rfl) ?_)
    refine g_nil ?_
    refine g_then ?_
    refine g_weak [(6, .bool (decide ((a.lt : Int) < b.lt)))] ⟨rfl, trivial⟩ ?_
    refine g_ret ?_
    refine g_then_ret ?_
    refine fin_ret [.tmp 6] [.bool (decide ((a.lt : Int) < b.lt))] rfl ⟨rfl, trivial⟩ ?_
    have hv : (cR turn (toRv sd a) (toRv sd b) < 0) ↔ (a.lt : Int) < b.lt := by
      unfold cR bhd toRv
      simp only [reduceIte, Bool.false_eq_true, ne_eq, decide_eq_true_eq, ite_not]
      repeat' split
      all_goals omega
    exact ⟨by rw [decide_eq_decide.2 hv]; first | rfl | simp, H6.mask [false, false, true]⟩
set_option maxRecDepth 20000 in
set_option maxHeartbeats 4000000 in
set_option maxRecDepth 20000 in
set_option maxHeartbeats 4000000 in
theorem choose_r (l : List Rt) (p : Option Addr) (n c : Nat) (hn2 : n ≤ 30) (hok : ∀ r ∈ l, okR r) (slots : Int) (sd : Bool) (turn : Int)  (w : World) (hr : Reads w p n c 6 (fl rtL l)) : Calls Try.prog 11 #[.slice p n c, .int .i64 slots, .bool sd, .int .i64 turn] w fun e w' => ∃ p1 c1, e = .returned (.tuple #[.slice p1 (choV l slots sd turn).length c1, .int .i64 (rtErr l slots turn)]) ∧ S w' ([Rw 3 1 p1 (choV l slots sd turn).length c1 (fl intL (choV l slots sd turn))] ++ [Old w no]) := by
  have H0 := S.old w
  have hnl := hr.lenL rtE
  refine enter 129 Try.func11 rfl rfl rfl ?_
  refine g_weak [(0, .slice p n c), (1, .int .i64 slots), (2, .bool sd), (3, .int .i64 turn)] ⟨rfl, rfl, rfl, rfl, trivial⟩ ?_
  refine g_seq ?_
  refine g_region ?_
  refine l_of (s_val (v := .slice none 0 0) (wt0 rfl) rfl rfl (x_assign rfl rfl) ?_)
  refine l_of (s_val (v := .int .i64 0) (wt0 rfl) rfl rfl (x_assign rfl rfl) ?_)
  refine g_nil ?_
  refine g_then ?_
  refine g_seq ?_
  refine g_seq ?_
  refine g_region ?_
  refine l_of (s_val (v := .slice p n c) (wt0 rfl) rfl rfl (x_move rfl rfl) ?_)
  refine l_of (s_call (wt0 rfl) (x_call' rfl rfl cl46) (rated_r l p n c (by omega) hok _ (H0.exReads (k := 0) rfl hr (fun _ _ _ h => h))) ?_)
  rintro _ wq1 ⟨rfl, H2⟩
  replace H2 : S wq1 [Old w no] := H0.absorb (new := []) H2
  refine b_ret rfl rfl ?_
  refine l_of (s_val (v := .int .i64 ((rtErr l 0 0))) (wt0 rfl) rfl rfl (x_assign rfl rfl) ?_)
  refine g_nil ?_
  refine g_then ?_
  refine g_seq ?_
  refine g_region ?_
  refine l_of (s_val (v := .int .i64 ((rtErr l 0 0))) (wt0 rfl) rfl rfl (x_move rfl rfl) ?_)
  refine l_of (s_val (v := .bool (!decide (((rtErr l 0 0) : Int) = 0))) (wt0 rfl) rfl rfl (x_bin rfl rfl rfl b_neq) ?_)
  refine g_nil ?_
  refine g_then ?_
  by_cases hb3 : ((rtErr l 0 0) : Int) = 0
  · skip
    refine g_cond_f rfl (nf hb3) ?_
    refine g_skip ?_
    refine g_then ?_
    refine g_seq ?_
    refine g_seq ?_
    refine g_region ?_
    obtain ⟨hnb, hnd⟩ := rt_ok (l := l) (by omega)
    refine l_of (s_val (v := .int .i64 slots) (wt0 rfl) rfl rfl (x_move rfl rfl) ?_)
    refine l_of (s_val (v := .bool (decide ((slots : Int) < 0))) (wt0 rfl) rfl rfl (x_bin rfl rfl rfl b_lss) ?_)
    refine l_of (s_val (v := .bool (decide ((slots : Int) < 0))) (wt0 rfl) rfl rfl (x_move rfl rfl) ?_)
    by_cases hb4 : (slots : Int) < 0
    · skip
      refine l_of (s_not (wn1 rfl rfl rfl rfl (decide_eq_true hb4)) rfl rfl ?_)
      refine l_of (s_not (wn1 rfl rfl rfl rfl (decide_eq_true hb4)) rfl rfl ?_)
      refine l_of (s_val (v := .bool true) (wt0 rfl) rfl rfl (x_pick_t rfl rfl (decide_eq_true hb4) rfl) ?_)
      refine l_of (s_val (v := .bool true) (wt0 rfl) rfl rfl (x_move rfl rfl) ?_)
      refine l_of (s_not (wn1 rfl rfl rfl rfl rfl) rfl rfl ?_)
      refine l_of (s_not (wn1 rfl rfl rfl rfl rfl) rfl rfl ?_)
      refine l_of (s_val (v := .bool true) (wt0 rfl) rfl rfl (x_pick_t rfl rfl rfl rfl) ?_)
      refine g_nil ?_
      refine g_then ?_
      refine g_weak [(0, .slice p n c), (1, .int .i64 slots), (2, .bool sd), (3, .int .i64 turn), (32, .bool true)] ⟨rfl, rfl, rfl, rfl, rfl, trivial⟩ ?_
      refine g_cond_t rfl rfl ?_
      refine g_seq ?_
      refine g_region ?_
      refine l_of (s_val (v := .slice none 0 0) (wt0 rfl) rfl rfl (x_assign rfl rfl) ?_)
      refine l_of (s_val (v := .int .i64 7) (wt0 rfl) rfl rfl (x_assign rfl rfl) ?_)
      refine g_nil ?_
      refine g_then ?_
      refine g_ret ?_
      refine g_then_ret ?_
      refine fin_ret [.tmp 8, .tmp 9] [.slice none 0 0, .int .i64 7] rfl ⟨rfl, rfl, trivial⟩ ?_
      have hv : rtErr l slots turn = 7 := rt_7 hnb hnd (by omega)
      rw [cho_e hv (by decide), hv]
      exact ⟨none, 0, rfl, (H2.takes [0] (by decide)).nilFl 3 1 intL⟩
    · skip
      refine l_of (s_val (v := .int .i64 slots) (wt1 rfl rfl rfl rfl (decide_eq_false hb4)) rfl rfl (x_move rfl rfl) ?_)
      refine l_of (s_val (v := .bool (decide ((100 : Int) < slots))) (wt1 rfl rfl rfl rfl (decide_eq_false hb4)) rfl rfl (x_bin rfl rfl rfl b_gtr) ?_)
      refine l_of (s_val (v := .bool (decide ((100 : Int) < slots))) (wt0 rfl) rfl rfl (x_pick_f rfl rfl (decide_eq_false hb4) rfl) ?_)
      refine l_of (s_val (v := .bool (decide ((100 : Int) < slots))) (wt0 rfl) rfl rfl (x_move rfl rfl) ?_)
      by_cases hb5 : (100 : Int) < slots
      · skip
        refine l_of (s_not (wn1 rfl rfl rfl rfl (decide_eq_true hb5)) rfl rfl ?_)
        refine l_of (s_not (wn1 rfl rfl rfl rfl (decide_eq_true hb5)) rfl rfl ?_)
        refine l_of (s_val (v := .bool true) (wt0 rfl) rfl rfl (x_pick_t rfl rfl (decide_eq_true hb5) rfl) ?_)
        refine g_nil ?_
        refine g_then ?_
        refine g_weak [(0, .slice p n c), (1, .int .i64 slots), (2, .bool sd), (3, .int .i64 turn), (32, .bool true)] ⟨rfl, rfl, rfl, rfl, rfl, trivial⟩ ?_
        refine g_cond_t rfl rfl ?_
        refine g_seq ?_
        refine g_region ?_
        refine l_of (s_val (v := .slice none 0 0) (wt0 rfl) rfl rfl (x_assign rfl rfl) ?_)
        refine l_of (s_val (v := .int .i64 7) (wt0 rfl) rfl rfl (x_assign rfl rfl) ?_)
        refine g_nil ?_
        refine g_then ?_
        refine g_ret ?_
        refine g_then_ret ?_
        refine fin_ret [.tmp 8, .tmp 9] [.slice none 0 0, .int .i64 7] rfl ⟨rfl, rfl, trivial⟩ ?_
        have hv : rtErr l slots turn = 7 := rt_7 hnb hnd (by omega)
        rw [cho_e hv (by decide), hv]
        exact ⟨none, 0, rfl, (H2.takes [0] (by decide)).nilFl 3 1 intL⟩
      · skip
        refine l_of (s_val (v := .int .i64 turn) (wt1 rfl rfl rfl rfl (decide_eq_false hb5)) rfl rfl (x_move rfl rfl) ?_)
        refine l_of (s_val (v := .bool (decide ((turn : Int) < 0))) (wt1 rfl rfl rfl rfl (decide_eq_false hb5)) rfl rfl (x_bin rfl rfl rfl b_lss) ?_)
        refine l_of (s_val (v := .bool (decide ((turn : Int) < 0))) (wt0 rfl) rfl rfl (x_pick_f rfl rfl (decide_eq_false hb5) rfl) ?_)
        refine g_nil ?_
        refine g_then ?_
        refine g_weak [(0, .slice p n c), (1, .int .i64 slots), (2, .bool sd), (3, .int .i64 turn), (32, .bool (decide ((turn : Int) < 0)))] ⟨rfl, rfl, rfl, rfl, rfl, trivial⟩ ?_
        by_cases hb6 : (turn : Int) < 0
        · skip
          refine g_cond_t rfl (decide_eq_true hb6) ?_
          refine g_seq ?_
          refine g_region ?_
          refine l_of (s_val (v := .slice none 0 0) (wt0 rfl) rfl rfl (x_assign rfl rfl) ?_)
          refine l_of (s_val (v := .int .i64 7) (wt0 rfl) rfl rfl (x_assign rfl rfl) ?_)
          refine g_nil ?_
          refine g_then ?_
          refine g_ret ?_
          refine g_then_ret ?_
          refine fin_ret [.tmp 8, .tmp 9] [.slice none 0 0, .int .i64 7] rfl ⟨rfl, rfl, trivial⟩ ?_
          have hv : rtErr l slots turn = 7 := rt_7 hnb hnd (by omega)
          rw [cho_e hv (by decide), hv]
          exact ⟨none, 0, rfl, (H2.takes [0] (by decide)).nilFl 3 1 intL⟩
        · skip
          refine g_cond_f rfl (decide_eq_false hb6) ?_
          refine g_skip ?_
          refine g_then ?_
          refine g_seq ?_
          refine g_region ?_
          refine l_of (s_val (v := .slice none 0 0) (wt0 rfl) rfl rfl (x_assign rfl rfl) ?_)
          refine g_nil ?_
          refine g_then ?_
          refine g_seq ?_
          refine g_block ?_
          refine g_loop (ι := Nat × Option Addr × Nat × List Int) (fun (k9, po, co, O) => [(0, .slice p n c), (1, .int .i64 slots), (2, .bool sd), (3, .int .i64 turn), (11, .slice po O.length co)]) (fun (k9, po, co, O) wx => (O = ((srt Rv.zero cF ((l.map (toRv sd)).filter q1)).take k9).map Rv.id) ∧ (O.length = k9) ∧ ((k9 : Int) ≤ slots) ∧ S wx [Rw 3 1 po O.length co (fl intL O), Old w no]) (fun (k9, po, co, O) => (slots.toNat - k9)) (0, none, 0, []) ⟨rfl, rfl, rfl, rfl, rfl, trivial⟩ ⟨(by rw [List.take_zero]; rfl), rfl, (by omega), ((H2.takes [0] (by decide)).nilFl 3 1 intL)⟩ ?_
          rintro ⟨k9, po, co, O⟩ wq7 ⟨hO, hOl, hks, H8⟩
          replace H8 : S wq7 [Rw 3 1 po O.length co (fl intL O), Old w no] := H8
          refine g_weak [(0, .slice p n c), (1, .int .i64 slots), (2, .bool sd), (3, .int .i64 turn), (11, .slice po O.length co)] ⟨rfl, rfl, rfl, rfl, rfl, trivial⟩ ?_
          refine g_seq ?_
          refine g_seq ?_
          refine g_region ?_
          refine l_of (s_val (v := .slice po O.length co) (wt0 rfl) rfl rfl (x_move rfl rfl) ?_)
          refine l_of (s_val (v := .int .i64 ((O.length : Int))) (wt0 rfl) rfl rfl (x_lenl rfl rfl Try.underlying23) ?_)
          refine l_of (s_val (v := .int .i64 slots) (wt0 rfl) rfl rfl (x_move rfl rfl) ?_)
          refine l_of (s_val (v := .bool (decide (((O.length : Int) : Int) < slots))) (wt0 rfl) rfl rfl (x_bin rfl rfl rfl b_lss) ?_)
          refine g_nil ?_
          refine g_then ?_
          by_cases hb9 : ((O.length : Int) : Int) < slots
          · skip
            refine g_cond_t rfl (decide_eq_true hb9) ?_
            refine g_skip ?_
            refine g_then ?_
            refine g_block ?_
            refine g_seq ?_
            refine g_region ?_
            refine l_of (s_val (v := .int .i64 (-1)) (wt0 rfl) rfl rfl (x_assign rfl rfl) ?_)
            refine g_nil ?_
            refine g_then ?_
            refine g_seq ?_
            refine g_seq ?_
            refine g_region ?_
            refine l_of (s_val (v := .slice p n c) (wt0 rfl) rfl rfl (x_move rfl rfl) ?_)
            refine l_of (s_val (v := .int .i64 ((n : Int))) (wt0 rfl) rfl rfl (x_lenl rfl rfl Try.underlying33) ?_)
            refine l_of (s_val (v := .int .i64 0) (wt0 rfl) rfl rfl (x_move rfl rfl) ?_)
            refine g_nil ?_
            refine g_then ?_
            refine g_block ?_
            refine g_loop (ι := Nat × Int) (fun (i9, at9) => [(0, .slice p n c), (1, .int .i64 slots), (2, .bool sd), (3, .int .i64 turn), (11, .slice po O.length co), (12, .int .i64 at9), (37, .slice p n c), (38, .int .i64 ((n : Int))), (39, .int .i64 ((i9 : Int)))]) (fun (i9, at9) wx => (i9 ≤ n) ∧ (AtB (fun a b => cF (toRv sd a) (toRv sd b)) (PE q1 sd O) l i9 at9) ∧ S wx [Rw 3 1 po O.length co (fl intL O), Old w no]) (fun (i9, at9) => n - i9) (0, (-1)) ⟨rfl, rfl, rfl, rfl, rfl, rfl, rfl, rfl, rfl, trivial⟩ ⟨Nat.zero_le _, AtB.start, (H8.takes [0, 1] (by decide))⟩ ?_
            rintro ⟨i9, at9⟩ wq10 ⟨hi9, hat, H11⟩
            replace H11 : S wq10 [Rw 3 1 po O.length co (fl intL O), Old w no] := H11
            refine g_weak [(0, .slice p n c), (1, .int .i64 slots), (2, .bool sd), (3, .int .i64 turn), (11, .slice po O.length co), (12, .int .i64 at9), (37, .slice p n c), (38, .int .i64 ((n : Int))), (39, .int .i64 ((i9 : Int)))] ⟨rfl, rfl, rfl, rfl, rfl, rfl, rfl, rfl, rfl, trivial⟩ ?_
            refine g_seq ?_
            refine g_region ?_
            refine l_of (s_val (v := .bool (decide (((i9 : Int) : Int) < (n : Int)))) (wt0 rfl) rfl rfl (x_bin rfl rfl rfl b_lss) ?_)
            refine g_nil ?_
            refine g_then ?_
            refine g_seq ?_
            by_cases hb12 : ((i9 : Int) : Int) < (n : Int)
            · skip
              refine g_cond_t rfl (decide_eq_true hb12) ?_
              refine g_skip ?_
              refine g_then ?_
              refine g_seq ?_
              refine g_block ?_
              refine g_seq ?_
              refine g_region ?_
              refine l_of (s_val (v := .int .i64 ((i9 : Int))) (wt0 rfl) rfl rfl (x_move rfl rfl) ?_)
              refine l_of (s_val (v := .pointer ((p).map fun q => q.add (i9 * 6))) (wt0 rfl) rfl rfl (x_idxR i9 (H11.exReads (k := 1) rfl hr (fun _ _ _ h => h)) rfl rfl rfl Try.underlying33 sz57 (by omega)) ?_)
              have hlq := (H11.exReads (k := 1) rfl hr (fun _ _ _ h => h)).lenL rtE
              obtain ⟨x13, hx13⟩ := ex_at (l := l) (j := i9) (by omega)
              clear hlq
              refine l_of (s_val (v := .agg #[.int .i64 (x13.peer), .bool x13.wants, .int .i64 (x13.gave), .int .i64 (x13.got), .bool x13.snb, .int .i64 (x13.lt)]) (wt0 rfl) rfl rfl (x_loadRA (vs := rtL x13) i9 (H11.exReads (k := 1) rfl hr (fun _ _ _ h => h)) (by omega) rfl rfl Try.underlying57 rfl sz57 (by rfl) (rtE.flAt hx13)) ?_)
              refine l_of (s_alloc H11 (wt0 rfl) rfl rfl rfl ze57 ?_)
              intro g14 wq15 H16
              refine l_of (s_val (v := .int .i64 ((i9 : Int))) (wt0 rfl) rfl rfl (x_assign rfl rfl) ?_)
              refine l_of (s_store H16 0 (wt0 rfl) rfl rfl rfl rfl rfl sz57 rfl rfl (cs' := #[.int .i64 (x13.peer), .bool x13.wants, .int .i64 (x13.gave), .int .i64 (x13.got), .bool x13.snb, .int .i64 (x13.lt)]) rfl ?_)
              intro wq17 H18
              refine g_nil ?_
              refine g_then ?_
              refine g_seq ?_
              refine g_any [] (fun wx => S wx [Ob g14 (.cells #[.int .i64 (x13.peer), .bool x13.wants, .int .i64 (x13.gave), .int .i64 (x13.got), .bool x13.snb, .int .i64 (x13.lt)] 57 (0, 0)), Rw 3 1 po O.length co (fl intL O), Old w no]) [] (by kernel_rfl) H18 (fun wq19 H20 => ?_)
              refine a_take (v := .pointer (some ⟨g14, 1, none⟩)) 0 rfl (wt0 rfl) rfl rfl rfl (by kernel_rfl) (by kernel_rfl) (by kernel_rfl) (by kernel_rfl) H20 (fun wx H => x_fieldAddr rfl rfl fo57_1 rfl) ?_
              refine a_take (v := .bool x13.wants) 1 rfl (wt0 rfl) rfl rfl rfl (by kernel_rfl) (by kernel_rfl) (by kernel_rfl) (by kernel_rfl) H20 (fun wx H => x_load1 H 0 rfl rfl Try.underlying4 rfl rfl rfl) ?_
              refine a_take (v := .bool x13.wants) 2 rfl (wt0 rfl) rfl rfl rfl (by kernel_rfl) (by kernel_rfl) (by kernel_rfl) (by kernel_rfl) H20 (fun wx H => x_move rfl rfl) ?_
              rcases Bool.eq_false_or_eq_true (x13.wants) with hb21 | hb21
              · skip
                refine a_take (v := .bool sd) 3 rfl (wt1 rfl rfl rfl rfl hb21) rfl rfl rfl (by kernel_rfl) (by kernel_rfl) (by kernel_rfl) (by kernel_rfl) H20 (fun wx H => x_move rfl rfl) ?_
                refine a_take (v := .bool sd) 4 rfl (wt1 rfl rfl rfl rfl hb21) rfl rfl rfl (by kernel_rfl) (by kernel_rfl) (by kernel_rfl) (by kernel_rfl) H20 (fun wx H => x_move rfl rfl) ?_
                rcases Bool.eq_false_or_eq_true (sd) with hb22 | hb22
                · skip
                  refine a_not 5 rfl (wn1 rfl rfl rfl rfl hb22) rfl rfl rfl (by kernel_rfl) (by kernel_rfl) (by kernel_rfl) (by kernel_rfl) H20 ?_
                  refine a_not 6 rfl (wn1 rfl rfl rfl rfl hb22) rfl rfl rfl (by kernel_rfl) (by kernel_rfl) (by kernel_rfl) (by kernel_rfl) H20 ?_
                  refine a_not 7 rfl (wn1 rfl rfl rfl rfl hb22) rfl rfl rfl (by kernel_rfl) (by kernel_rfl) (by kernel_rfl) (by kernel_rfl) H20 ?_
                  refine a_take (v := .bool true) 8 rfl (wt1 rfl rfl rfl rfl hb21) rfl rfl rfl (by kernel_rfl) (by kernel_rfl) (by kernel_rfl) (by kernel_rfl) H20 (fun wx H => x_pick_t rfl rfl hb22 rfl) ?_
                  refine a_take (v := .bool true) 9 rfl (wt0 rfl) rfl rfl rfl (by kernel_rfl) (by kernel_rfl) (by kernel_rfl) (by kernel_rfl) H20 (fun wx H => x_pick_t rfl rfl hb21 rfl) ?_
                  refine a_take (v := .bool true) 10 rfl (wt0 rfl) rfl rfl rfl (by kernel_rfl) (by kernel_rfl) (by kernel_rfl) (by kernel_rfl) H20 (fun wx H => x_move rfl rfl) ?_
                  refine a_take (v := .slice po O.length co) 11 rfl (wt1 rfl rfl rfl rfl rfl) rfl rfl rfl (by kernel_rfl) (by kernel_rfl) (by kernel_rfl) (by kernel_rfl) H20 (fun wx H => x_move rfl rfl) ?_
                  refine a_take (v := .pointer (some ⟨g14, 0, none⟩)) 12 rfl (wt1 rfl rfl rfl rfl rfl) rfl rfl rfl (by kernel_rfl) (by kernel_rfl) (by kernel_rfl) (by kernel_rfl) H20 (fun wx H => x_fieldAddr rfl rfl fo57_0 rfl) ?_
                  refine a_take (v := .int .i64 (x13.peer)) 13 rfl (wt1 rfl rfl rfl rfl rfl) rfl rfl rfl (by kernel_rfl) (by kernel_rfl) (by kernel_rfl) (by kernel_rfl) H20 (fun wx H => x_load1 H 0 rfl rfl Try.underlying3 rfl rfl rfl) ?_
                  refine a_one (i := 14) (by kernel_rfl) rfl ?_
                  refine s_call (wt1 rfl rfl rfl rfl rfl) (x_call' rfl rfl cl30) (in_r O po O.length co x13.peer (by omega) _ (H20.rwReads (k := 1) rfl)) ?_
                  rintro _ wq23 ⟨rfl, H24⟩
                  replace H24 : S wq23 [Ob g14 (.cells #[.int .i64 (x13.peer), .bool x13.wants, .int .i64 (x13.gave), .int .i64 (x13.got), .bool x13.snb, .int .i64 (x13.lt)] 57 (0, 0)), Rw 3 1 po O.length co (fl intL O), Old w no] := H20.absorb (new := []) H24
                  refine b_ret rfl rfl ?_
                  refine a_k H24 ?_
                  refine a_take (v := .bool (!((decide (x13.peer ∈ O))))) 15 rfl (wt1 rfl rfl rfl rfl rfl) rfl rfl rfl (by kernel_rfl) (by kernel_rfl) (by kernel_rfl) (by kernel_rfl) H24 (fun wx H => x_not (b := (decide (x13.peer ∈ O))) rfl rfl) ?_
                  refine a_take (v := .bool (!((decide (x13.peer ∈ O))))) 16 rfl (wt0 rfl) rfl rfl rfl (by kernel_rfl) (by kernel_rfl) (by kernel_rfl) (by kernel_rfl) H24 (fun wx H => x_pick_t rfl rfl rfl rfl) ?_
                  refine a_take (v := .bool (!((decide (x13.peer ∈ O))))) 17 rfl (wt0 rfl) rfl rfl rfl (by kernel_rfl) (by kernel_rfl) (by kernel_rfl) (by kernel_rfl) H24 (fun wx H => x_move rfl rfl) ?_
                  rcases Bool.eq_false_or_eq_true ((decide (x13.peer ∈ O))) with hb25 | hb25
                  · skip
                    refine a_not 18 rfl (wn1 rfl rfl rfl rfl (neg_of hb25)) rfl rfl rfl (by kernel_rfl) (by kernel_rfl) (by kernel_rfl) (by kernel_rfl) H24 ?_
                    refine a_not 19 rfl (wn1 rfl rfl rfl rfl (neg_of hb25)) rfl rfl rfl (by kernel_rfl) (by kernel_rfl) (by kernel_rfl) (by kernel_rfl) H24 ?_
                    refine a_not 20 rfl (wn1 rfl rfl rfl rfl (neg_of hb25)) rfl rfl rfl (by kernel_rfl) (by kernel_rfl) (by kernel_rfl) (by kernel_rfl) H24 ?_
                    refine a_not 21 rfl (wn2 rfl rfl rfl rfl) rfl rfl rfl (by kernel_rfl) (by kernel_rfl) (by kernel_rfl) (by kernel_rfl) H24 ?_
                    refine a_not 22 rfl (wn2 rfl rfl rfl rfl) rfl rfl rfl (by kernel_rfl) (by kernel_rfl) (by kernel_rfl) (by kernel_rfl) H24 ?_
                    refine a_not 23 rfl (wn2 rfl rfl rfl rfl) rfl rfl rfl (by kernel_rfl) (by kernel_rfl) (by kernel_rfl) (by kernel_rfl) H24 ?_
                    refine a_not 24 rfl (wn2 rfl rfl rfl rfl) rfl rfl rfl (by kernel_rfl) (by kernel_rfl) (by kernel_rfl) (by kernel_rfl) H24 ?_
                    refine a_not 25 rfl (wn2 rfl rfl rfl rfl) rfl rfl rfl (by kernel_rfl) (by kernel_rfl) (by kernel_rfl) (by kernel_rfl) H24 ?_
                    refine a_not 26 rfl (wn2 rfl rfl rfl rfl) rfl rfl rfl (by kernel_rfl) (by kernel_rfl) (by kernel_rfl) (by kernel_rfl) H24 ?_
                    refine a_one (i := 27) (by kernel_rfl) rfl ?_
                    refine s_not (wn2 rfl rfl rfl rfl) rfl rfl ?_
                    refine a_k H24 ?_
                    refine a_not 28 rfl (wn1 rfl rfl rfl rfl (neg_of hb25)) rfl rfl rfl (by kernel_rfl) (by kernel_rfl) (by kernel_rfl) (by kernel_rfl) H24 ?_
                    refine a_take (v := .bool false) 29 rfl (wt0 rfl) rfl rfl rfl (by kernel_rfl) (by kernel_rfl) (by kernel_rfl) (by kernel_rfl) H24 (fun wx H => x_pick_f rfl rfl (neg_of hb25) rfl) ?_
                    refine a_done (by kernel_rfl) ?_
                    refine g_then ?_
                    refine g_weak [(0, .slice p n c), (1, .int .i64 slots), (2, .bool sd), (3, .int .i64 turn), (11, .slice po O.length co), (12, .int .i64 at9), (13, .int .i64 ((i9 : Int))), (37, .slice p n c), (38, .int .i64 ((n : Int))), (39, .int .i64 ((i9 : Int))), (47, .bool sd), (48, .bool sd), (49, undef), (50, undef), (51, undef), (52, .bool true), (55, .slice po O.length co), (56, .pointer (some ⟨g14, 0, none⟩)), (57, .int .i64 (x13.peer)), (58, .bool ((decide (x13.peer ∈ O)))), (59, .bool (!((decide (x13.peer ∈ O))))), (62, undef), (63, undef), (64, undef), (65, undef), (66, undef), (67, undef), (68, undef), (69, undef), (70, undef), (71, undef), (72, undef), (73, .bool false)] ⟨rfl, rfl, rfl, rfl, rfl, rfl, rfl, rfl, rfl, rfl, rfl, rfl, rfl, rfl, rfl, rfl, rfl, rfl, rfl, rfl, rfl, rfl, rfl, rfl, rfl, rfl, rfl, rfl, rfl, rfl, rfl, rfl, rfl, trivial⟩ ?_
                    refine g_cond_f rfl rfl ?_
                    refine g_skip ?_
                    refine g_in ?_
                    refine g_then ?_
                    refine g_region ?_
                    refine l_of (s_val (v := .int .i64 (((i9 + 1 : Nat) : Int))) (wt0 rfl) rfl rfl (x_bin rfl rfl rfl (b_add (by rw [w64 (by omega)]; omega))) ?_)
                    refine l_of (s_val (v := .int .i64 (((i9 + 1 : Nat) : Int))) (wt0 rfl) rfl rfl (x_move rfl rfl) ?_)
                    refine g_nil ?_
                    refine g_then ?_
                    refine g_round (i := (i9, at9)) ((i9 + 1), at9) ?_ ?_ ?_
                    · exact ⟨rfl, rfl, rfl, rfl, rfl, rfl, rfl, rfl, rfl, trivial⟩
                    · exact ⟨by omega, (hat.skip hx13 (by rw [PE_1]; simp [hb6, hb21, hb22, hb25])), (H24.takes [1, 2] (by decide))⟩
                    · (try dsimp only); omega
                  · skip
                    refine a_take (v := .int .i64 at9) 18 rfl (wt1 rfl rfl rfl rfl (neg_of hb25)) rfl rfl rfl (by kernel_rfl) (by kernel_rfl) (by kernel_rfl) (by kernel_rfl) H24 (fun wx H => x_move rfl rfl) ?_
                    refine a_take (v := .bool (decide ((at9 : Int) < 0))) 19 rfl (wt1 rfl rfl rfl rfl (neg_of hb25)) rfl rfl rfl (by kernel_rfl) (by kernel_rfl) (by kernel_rfl) (by kernel_rfl) H24 (fun wx H => x_bin rfl rfl rfl b_lss) ?_
                    refine a_take (v := .bool (decide ((at9 : Int) < 0))) 20 rfl (wt1 rfl rfl rfl rfl (neg_of hb25)) rfl rfl rfl (by kernel_rfl) (by kernel_rfl) (by kernel_rfl) (by kernel_rfl) H24 (fun wx H => x_move rfl rfl) ?_
                    by_cases hb26 : (at9 : Int) < 0
                    · skip
                      refine a_not 21 rfl (wn1 rfl rfl rfl rfl (decide_eq_true hb26)) rfl rfl rfl (by kernel_rfl) (by kernel_rfl) (by kernel_rfl) (by kernel_rfl) H24 ?_
                      refine a_not 22 rfl (wn1 rfl rfl rfl rfl (decide_eq_true hb26)) rfl rfl rfl (by kernel_rfl) (by kernel_rfl) (by kernel_rfl) (by kernel_rfl) H24 ?_
                      refine a_not 23 rfl (wn1 rfl rfl rfl rfl (decide_eq_true hb26)) rfl rfl rfl (by kernel_rfl) (by kernel_rfl) (by kernel_rfl) (by kernel_rfl) H24 ?_
                      refine a_not 24 rfl (wn1 rfl rfl rfl rfl (decide_eq_true hb26)) rfl rfl rfl (by kernel_rfl) (by kernel_rfl) (by kernel_rfl) (by kernel_rfl) H24 ?_
                      refine a_not 25 rfl (wn1 rfl rfl rfl rfl (decide_eq_true hb26)) rfl rfl rfl (by kernel_rfl) (by kernel_rfl) (by kernel_rfl) (by kernel_rfl) H24 ?_
                      refine a_not 26 rfl (wn1 rfl rfl rfl rfl (decide_eq_true hb26)) rfl rfl rfl (by kernel_rfl) (by kernel_rfl) (by kernel_rfl) (by kernel_rfl) H24 ?_
                      refine a_one (i := 27) (by kernel_rfl) rfl ?_
                      refine s_not (wn1 rfl rfl rfl rfl (decide_eq_true hb26)) rfl rfl ?_
                      refine a_k H24 ?_
                      refine a_take (v := .bool true) 28 rfl (wt1 rfl rfl rfl rfl (neg_of hb25)) rfl rfl rfl (by kernel_rfl) (by kernel_rfl) (by kernel_rfl) (by kernel_rfl) H24 (fun wx H => x_pick_t rfl rfl (decide_eq_true hb26) rfl) ?_
                      refine a_take (v := .bool true) 29 rfl (wt0 rfl) rfl rfl rfl (by kernel_rfl) (by kernel_rfl) (by kernel_rfl) (by kernel_rfl) H24 (fun wx H => x_pick_t rfl rfl (neg_of hb25) rfl) ?_
                      refine a_done (by kernel_rfl) ?_
                      refine g_then ?_
                      refine g_weak [(0, .slice p n c), (1, .int .i64 slots), (2, .bool sd), (3, .int .i64 turn), (11, .slice po O.length co), (12, .int .i64 at9), (13, .int .i64 ((i9 : Int))), (37, .slice p n c), (38, .int .i64 ((n : Int))), (39, .int .i64 ((i9 : Int))), (47, .bool sd), (48, .bool sd), (49, undef), (50, undef), (51, undef), (52, .bool true), (55, .slice po O.length co), (56, .pointer (some ⟨g14, 0, none⟩)), (57, .int .i64 (x13.peer)), (58, .bool ((decide (x13.peer ∈ O)))), (59, .bool (!((decide (x13.peer ∈ O))))), (62, .int .i64 at9), (63, .bool (decide ((at9 : Int) < 0))), (64, .bool (decide ((at9 : Int) < 0))), (65, undef), (66, undef), (67, undef), (68, undef), (69, undef), (70, undef), (71, undef), (72, .bool true), (73, .bool true)] ⟨rfl, rfl, rfl, rfl, rfl, rfl, rfl, rfl, rfl, rfl, rfl, rfl, rfl, rfl, rfl, rfl, rfl, rfl, rfl, rfl, rfl, rfl, rfl, rfl, rfl, rfl, rfl, rfl, rfl, rfl, rfl, rfl, rfl, trivial⟩ ?_
                      refine g_cond_t rfl rfl ?_
                      refine g_region ?_
                      refine l_of (s_val (v := .int .i64 ((i9 : Int))) (wt0 rfl) rfl rfl (x_move rfl rfl) ?_)
                      refine l_of (s_val (v := .int .i64 ((i9 : Int))) (wt0 rfl) rfl rfl (x_assign rfl rfl) ?_)
                      refine g_nil ?_
                      refine g_in ?_
                      refine g_then ?_
                      refine g_region ?_
                      refine l_of (s_val (v := .int .i64 (((i9 + 1 : Nat) : Int))) (wt0 rfl) rfl rfl (x_bin rfl rfl rfl (b_add (by rw [w64 (by omega)]; omega))) ?_)
                      refine l_of (s_val (v := .int .i64 (((i9 + 1 : Nat) : Int))) (wt0 rfl) rfl rfl (x_move rfl rfl) ?_)
                      refine g_nil ?_
                      refine g_then ?_
                      refine g_round (i := (i9, at9)) ((i9 + 1), (i9 : Int)) ?_ ?_ ?_
                      · exact ⟨rfl, rfl, rfl, rfl, rfl, rfl, rfl, rfl, rfl, trivial⟩
                      · exact ⟨by omega, (hat.first (cF_wk.comap (toRv sd)) hb26 hx13 (by rw [PE_1]; simp [hb6, hb21, hb22, hb25, hb26])), (H24.takes [1, 2] (by decide))⟩
                      · (try dsimp only); omega
                    · skip
                      obtain ⟨j1, z1, rfl, hj1, hz1, hPz1, hbz1⟩ := hat.at hb26
                      have hjl1 := (List.getElem?_eq_some_iff.1 hz1).1
                      refine a_take (v := .bool sd) 21 rfl (wt1 rfl rfl rfl rfl (decide_eq_false hb26)) rfl rfl rfl (by kernel_rfl) (by kernel_rfl) (by kernel_rfl) (by kernel_rfl) H24 (fun wx H => x_move rfl rfl) ?_
                      refine a_take (v := .agg #[.int .i64 (x13.peer), .bool x13.wants, .int .i64 (x13.gave), .int .i64 (x13.got), .bool x13.snb, .int .i64 (x13.lt)]) 22 rfl (wt1 rfl rfl rfl rfl (decide_eq_false hb26)) rfl rfl rfl (by kernel_rfl) (by kernel_rfl) (by kernel_rfl) (by kernel_rfl) H24 (fun wx H => x_loadA H 0 rfl rfl Try.underlying57 rfl sz57 rfl rfl rfl) ?_
                      refine a_take (v := .slice p n c) 23 rfl (wt1 rfl rfl rfl rfl (decide_eq_false hb26)) rfl rfl rfl (by kernel_rfl) (by kernel_rfl) (by kernel_rfl) (by kernel_rfl) H24 (fun wx H => x_move rfl rfl) ?_
                      refine a_take (v := .int .i64 ((j1 : Int))) 24 rfl (wt1 rfl rfl rfl rfl (decide_eq_false hb26)) rfl rfl rfl (by kernel_rfl) (by kernel_rfl) (by kernel_rfl) (by kernel_rfl) H24 (fun wx H => x_move rfl rfl) ?_
                      refine a_take (v := .pointer ((p).map fun q => q.add (j1 * 6))) 25 rfl (wt1 rfl rfl rfl rfl (decide_eq_false hb26)) rfl rfl rfl (by kernel_rfl) (by kernel_rfl) (by kernel_rfl) (by kernel_rfl) H24 (fun wx H => x_idxP j1 ((H24.exReads (k := 2) rfl hr (fun _ _ _ h => h)).some (by omega)) rfl rfl rfl Try.underlying33 sz57 (by omega)) ?_
                      refine a_take (v := .agg #[.int .i64 (z1.peer), .bool z1.wants, .int .i64 (z1.gave), .int .i64 (z1.got), .bool z1.snb, .int .i64 (z1.lt)]) 26 rfl (wt1 rfl rfl rfl rfl (decide_eq_false hb26)) rfl rfl rfl (by kernel_rfl) (by kernel_rfl) (by kernel_rfl) (by kernel_rfl) H24 (fun wx H => x_loadRA (vs := rtL z1) j1 (H.exReads (k := 2) rfl hr (fun _ _ _ h => h)) (by omega) rfl rfl Try.underlying57 rfl sz57 (by rfl) (rtE.flAt hz1)) ?_
                      refine a_one (i := 27) (by kernel_rfl) rfl ?_
                      refine s_call (wt1 rfl rfl rfl rfl (decide_eq_false hb26)) (x_call' rfl rfl cl47) (ahead_r sd x13 z1 _) ?_
                      rintro _ wq27 ⟨rfl, H28⟩
                      replace H28 : S wq27 [Ob g14 (.cells #[.int .i64 (x13.peer), .bool x13.wants, .int .i64 (x13.gave), .int .i64 (x13.got), .bool x13.snb, .int .i64 (x13.lt)] 57 (0, 0)), Rw 3 1 po O.length co (fl intL O), Old w no] := H24.absorb (new := []) H28
                      refine b_ret rfl rfl ?_
                      refine a_k H28 ?_
                      refine a_take (v := .bool ((decide (cF (toRv sd x13) (toRv sd z1) < 0)))) 28 rfl (wt1 rfl rfl rfl rfl (neg_of hb25)) rfl rfl rfl (by kernel_rfl) (by kernel_rfl) (by kernel_rfl) (by kernel_rfl) H28 (fun wx H => x_pick_f rfl rfl (decide_eq_false hb26) rfl) ?_
                      refine a_take (v := .bool ((decide (cF (toRv sd x13) (toRv sd z1) < 0)))) 29 rfl (wt0 rfl) rfl rfl rfl (by kernel_rfl) (by kernel_rfl) (by kernel_rfl) (by kernel_rfl) H28 (fun wx H => x_pick_t rfl rfl (neg_of hb25) rfl) ?_
                      refine a_done (by kernel_rfl) ?_
                      refine g_then ?_
                      refine g_weak [(0, .slice p n c), (1, .int .i64 slots), (2, .bool sd), (3, .int .i64 turn), (11, .slice po O.length co), (12, .int .i64 ((j1 : Int))), (13, .int .i64 ((i9 : Int))), (37, .slice p n c), (38, .int .i64 ((n : Int))), (39, .int .i64 ((i9 : Int))), (47, .bool sd), (48, .bool sd), (49, undef), (50, undef), (51, undef), (52, .bool true), (55, .slice po O.length co), (56, .pointer (some ⟨g14, 0, none⟩)), (57, .int .i64 (x13.peer)), (58, .bool ((decide (x13.peer ∈ O)))), (59, .bool (!((decide (x13.peer ∈ O))))), (62, .int .i64 ((j1 : Int))), (63, .bool (decide (((j1 : Int) : Int) < 0))), (64, .bool (decide (((j1 : Int) : Int) < 0))), (65, .bool sd), (66, .agg #[.int .i64 (x13.peer), .bool x13.wants, .int .i64 (x13.gave), .int .i64 (x13.got), .bool x13.snb, .int .i64 (x13.lt)]), (67, .slice p n c), (68, .int .i64 ((j1 : Int))), (69, .pointer ((p).map fun q => q.add (j1 * 6))), (70, .agg #[.int .i64 (z1.peer), .bool z1.wants, .int .i64 (z1.gave), .int .i64 (z1.got), .bool z1.snb, .int .i64 (z1.lt)]), (71, .bool ((decide (cF (toRv sd x13) (toRv sd z1) < 0)))), (72, .bool ((decide (cF (toRv sd x13) (toRv sd z1) < 0)))), (73, .bool ((decide (cF (toRv sd x13) (toRv sd z1) < 0))))] ⟨rfl, rfl, rfl, rfl, rfl, rfl, rfl, rfl, rfl, rfl, rfl, rfl, rfl, rfl, rfl, rfl, rfl, rfl, rfl, rfl, rfl, rfl, rfl, rfl, rfl, rfl, rfl, rfl, rfl, rfl, rfl, rfl, rfl, trivial⟩ ?_
                      rcases Bool.eq_false_or_eq_true ((decide (cF (toRv sd x13) (toRv sd z1) < 0))) with hb29 | hb29
                      · skip
                        refine g_cond_t rfl hb29 ?_
                        refine g_region ?_
                        refine l_of (s_val (v := .int .i64 ((i9 : Int))) (wt0 rfl) rfl rfl (x_move rfl rfl) ?_)
                        refine l_of (s_val (v := .int .i64 ((i9 : Int))) (wt0 rfl) rfl rfl (x_assign rfl rfl) ?_)
                        refine g_nil ?_
                        refine g_in ?_
                        refine g_then ?_
                        refine g_region ?_
                        refine l_of (s_val (v := .int .i64 (((i9 + 1 : Nat) : Int))) (wt0 rfl) rfl rfl (x_bin rfl rfl rfl (b_add (by rw [w64 (by omega)]; omega))) ?_)
                        refine l_of (s_val (v := .int .i64 (((i9 + 1 : Nat) : Int))) (wt0 rfl) rfl rfl (x_move rfl rfl) ?_)
                        refine g_nil ?_
                        refine g_then ?_
                        refine g_round (i := (i9, (j1 : Int))) ((i9 + 1), (i9 : Int)) ?_ ?_ ?_
                        · exact ⟨rfl, rfl, rfl, rfl, rfl, rfl, rfl, rfl, rfl, trivial⟩
                        · exact ⟨by omega, (AtB.better (cF_wk.comap (toRv sd)) hbz1 hx13 (by rw [PE_1]; simp [hb6, hb21, hb22, hb25, hb26, hb29]) (of_decide_eq_true hb29)), (H28.takes [1, 2] (by decide))⟩
                        · (try dsimp only); omega
                      · skip
                        refine g_cond_f rfl hb29 ?_
                        refine g_skip ?_
                        refine g_in ?_
                        refine g_then ?_
                        refine g_region ?_
                        refine l_of (s_val (v := .int .i64 (((i9 + 1 : Nat) : Int))) (wt0 rfl) rfl rfl (x_bin rfl rfl rfl (b_add (by rw [w64 (by omega)]; omega))) ?_)
                        refine l_of (s_val (v := .int .i64 (((i9 + 1 : Nat) : Int))) (wt0 rfl) rfl rfl (x_move rfl rfl) ?_)
                        refine g_nil ?_
                        refine g_then ?_
                        refine g_round (i := (i9, (j1 : Int))) ((i9 + 1), (j1 : Int)) ?_ ?_ ?_
                        · exact ⟨rfl, rfl, rfl, rfl, rfl, rfl, rfl, rfl, rfl, trivial⟩
                        · exact ⟨by omega, (AtB.stay hj1 hz1 hPz1 hbz1 hx13 (of_decide_eq_false hb29)), (H28.takes [1, 2] (by decide))⟩
                        · (try dsimp only); omega
                · skip
                  refine a_take (v := .pointer (some ⟨g14, 4, none⟩)) 5 rfl (wt1 rfl rfl rfl rfl hb22) rfl rfl rfl (by kernel_rfl) (by kernel_rfl) (by kernel_rfl) (by kernel_rfl) H20 (fun wx H => x_fieldAddr rfl rfl fo57_4 rfl) ?_
                  refine a_take (v := .bool x13.snb) 6 rfl (wt1 rfl rfl rfl rfl hb22) rfl rfl rfl (by kernel_rfl) (by kernel_rfl) (by kernel_rfl) (by kernel_rfl) H20 (fun wx H => x_load1 H 0 rfl rfl Try.underlying4 rfl rfl rfl) ?_
                  refine a_take (v := .bool (!(x13.snb))) 7 rfl (wt1 rfl rfl rfl rfl hb22) rfl rfl rfl (by kernel_rfl) (by kernel_rfl) (by kernel_rfl) (by kernel_rfl) H20 (fun wx H => x_not (b := x13.snb) rfl rfl) ?_
                  refine a_take (v := .bool (!(x13.snb))) 8 rfl (wt1 rfl rfl rfl rfl hb21) rfl rfl rfl (by kernel_rfl) (by kernel_rfl) (by kernel_rfl) (by kernel_rfl) H20 (fun wx H => x_pick_f rfl rfl hb22 rfl) ?_
                  refine a_take (v := .bool (!(x13.snb))) 9 rfl (wt0 rfl) rfl rfl rfl (by kernel_rfl) (by kernel_rfl) (by kernel_rfl) (by kernel_rfl) H20 (fun wx H => x_pick_t rfl rfl hb21 rfl) ?_
                  refine a_take (v := .bool (!(x13.snb))) 10 rfl (wt0 rfl) rfl rfl rfl (by kernel_rfl) (by kernel_rfl) (by kernel_rfl) (by kernel_rfl) H20 (fun wx H => x_move rfl rfl) ?_
                  rcases Bool.eq_false_or_eq_true (x13.snb) with hb30 | hb30
                  · skip
                    refine a_not 11 rfl (wn1 rfl rfl rfl rfl (neg_of hb30)) rfl rfl rfl (by kernel_rfl) (by kernel_rfl) (by kernel_rfl) (by kernel_rfl) H20 ?_
                    refine a_not 12 rfl (wn1 rfl rfl rfl rfl (neg_of hb30)) rfl rfl rfl (by kernel_rfl) (by kernel_rfl) (by kernel_rfl) (by kernel_rfl) H20 ?_
                    refine a_not 13 rfl (wn1 rfl rfl rfl rfl (neg_of hb30)) rfl rfl rfl (by kernel_rfl) (by kernel_rfl) (by kernel_rfl) (by kernel_rfl) H20 ?_
                    refine a_one (i := 14) (by kernel_rfl) rfl ?_
                    refine s_not (wn1 rfl rfl rfl rfl (neg_of hb30)) rfl rfl ?_
                    refine a_k H20 ?_
                    refine a_not 15 rfl (wn1 rfl rfl rfl rfl (neg_of hb30)) rfl rfl rfl (by kernel_rfl) (by kernel_rfl) (by kernel_rfl) (by kernel_rfl) H20 ?_
                    refine a_take (v := .bool false) 16 rfl (wt0 rfl) rfl rfl rfl (by kernel_rfl) (by kernel_rfl) (by kernel_rfl) (by kernel_rfl) H20 (fun wx H => x_pick_f rfl rfl (neg_of hb30) rfl) ?_
                    refine a_take (v := .bool false) 17 rfl (wt0 rfl) rfl rfl rfl (by kernel_rfl) (by kernel_rfl) (by kernel_rfl) (by kernel_rfl) H20 (fun wx H => x_move rfl rfl) ?_
                    refine a_not 18 rfl (wn1 rfl rfl rfl rfl rfl) rfl rfl rfl (by kernel_rfl) (by kernel_rfl) (by kernel_rfl) (by kernel_rfl) H20 ?_
                    refine a_not 19 rfl (wn1 rfl rfl rfl rfl rfl) rfl rfl rfl (by kernel_rfl) (by kernel_rfl) (by kernel_rfl) (by kernel_rfl) H20 ?_
                    refine a_not 20 rfl (wn1 rfl rfl rfl rfl rfl) rfl rfl rfl (by kernel_rfl) (by kernel_rfl) (by kernel_rfl) (by kernel_rfl) H20 ?_
                    refine a_not 21 rfl (wn2 rfl rfl rfl rfl) rfl rfl rfl (by kernel_rfl) (by kernel_rfl) (by kernel_rfl) (by kernel_rfl) H20 ?_
                    refine a_not 22 rfl (wn2 rfl rfl rfl rfl) rfl rfl rfl (by kernel_rfl) (by kernel_rfl) (by kernel_rfl) (by kernel_rfl) H20 ?_
                    refine a_not 23 rfl (wn2 rfl rfl rfl rfl) rfl rfl rfl (by kernel_rfl) (by kernel_rfl) (by kernel_rfl) (by kernel_rfl) H20 ?_
                    refine a_not 24 rfl (wn2 rfl rfl rfl rfl) rfl rfl rfl (by kernel_rfl) (by kernel_rfl) (by kernel_rfl) (by kernel_rfl) H20 ?_
                    refine a_not 25 rfl (wn2 rfl rfl rfl rfl) rfl rfl rfl (by kernel_rfl) (by kernel_rfl) (by kernel_rfl) (by kernel_rfl) H20 ?_
                    refine a_not 26 rfl (wn2 rfl rfl rfl rfl) rfl rfl rfl (by kernel_rfl) (by kernel_rfl) (by kernel_rfl) (by kernel_rfl) H20 ?_
                    refine a_one (i := 27) (by kernel_rfl) rfl ?_
                    refine s_not (wn2 rfl rfl rfl rfl) rfl rfl ?_
                    refine a_k H20 ?_
                    refine a_not 28 rfl (wn1 rfl rfl rfl rfl rfl) rfl rfl rfl (by kernel_rfl) (by kernel_rfl) (by kernel_rfl) (by kernel_rfl) H20 ?_
                    refine a_take (v := .bool false) 29 rfl (wt0 rfl) rfl rfl rfl (by kernel_rfl) (by kernel_rfl) (by kernel_rfl) (by kernel_rfl) H20 (fun wx H => x_pick_f rfl rfl rfl rfl) ?_
                    refine a_done (by kernel_rfl) ?_
                    refine g_then ?_
                    refine g_weak [(0, .slice p n c), (1, .int .i64 slots), (2, .bool sd), (3, .int .i64 turn), (11, .slice po O.length co), (12, .int .i64 at9), (13, .int .i64 ((i9 : Int))), (37, .slice p n c), (38, .int .i64 ((n : Int))), (39, .int .i64 ((i9 : Int))), (47, .bool sd), (48, .bool sd), (49, .pointer (some ⟨g14, 4, none⟩)), (50, .bool x13.snb), (51, .bool (!(x13.snb))), (52, .bool (!(x13.snb))), (55, undef), (56, undef), (57, undef), (58, undef), (59, undef), (62, undef), (63, undef), (64, undef), (65, undef), (66, undef), (67, undef), (68, undef), (69, undef), (70, undef), (71, undef), (72, undef), (73, .bool false)] ⟨rfl, rfl, rfl, rfl, rfl, rfl, rfl, rfl, rfl, rfl, rfl, rfl, rfl, rfl, rfl, rfl, rfl, rfl, rfl, rfl, rfl, rfl, rfl, rfl, rfl, rfl, rfl, rfl, rfl, rfl, rfl, rfl, rfl, trivial⟩ ?_
                    refine g_cond_f rfl rfl ?_
                    refine g_skip ?_
                    refine g_in ?_
                    refine g_then ?_
                    refine g_region ?_
                    refine l_of (s_val (v := .int .i64 (((i9 + 1 : Nat) : Int))) (wt0 rfl) rfl rfl (x_bin rfl rfl rfl (b_add (by rw [w64 (by omega)]; omega))) ?_)
                    refine l_of (s_val (v := .int .i64 (((i9 + 1 : Nat) : Int))) (wt0 rfl) rfl rfl (x_move rfl rfl) ?_)
                    refine g_nil ?_
                    refine g_then ?_
                    refine g_round (i := (i9, at9)) ((i9 + 1), at9) ?_ ?_ ?_
                    · exact ⟨rfl, rfl, rfl, rfl, rfl, rfl, rfl, rfl, rfl, trivial⟩
                    · exact ⟨by omega, (hat.skip hx13 (by rw [PE_1]; simp [hb6, hb21, hb22, hb30])), (H20.takes [1, 2] (by decide))⟩
                    · (try dsimp only); omega
                  · skip
                    refine a_take (v := .slice po O.length co) 11 rfl (wt1 rfl rfl rfl rfl (neg_of hb30)) rfl rfl rfl (by kernel_rfl) (by kernel_rfl) (by kernel_rfl) (by kernel_rfl) H20 (fun wx H => x_move rfl rfl) ?_
                    refine a_take (v := .pointer (some ⟨g14, 0, none⟩)) 12 rfl (wt1 rfl rfl rfl rfl (neg_of hb30)) rfl rfl rfl (by kernel_rfl) (by kernel_rfl) (by kernel_rfl) (by kernel_rfl) H20 (fun wx H => x_fieldAddr rfl rfl fo57_0 rfl) ?_
                    refine a_take (v := .int .i64 (x13.peer)) 13 rfl (wt1 rfl rfl rfl rfl (neg_of hb30)) rfl rfl rfl (by kernel_rfl) (by kernel_rfl) (by kernel_rfl) (by kernel_rfl) H20 (fun wx H => x_load1 H 0 rfl rfl Try.underlying3 rfl rfl rfl) ?_
                    refine a_one (i := 14) (by kernel_rfl) rfl ?_
                    refine s_call (wt1 rfl rfl rfl rfl (neg_of hb30)) (x_call' rfl rfl cl30) (in_r O po O.length co x13.peer (by omega) _ (H20.rwReads (k := 1) rfl)) ?_
                    rintro _ wq31 ⟨rfl, H32⟩
                    replace H32 : S wq31 [Ob g14 (.cells #[.int .i64 (x13.peer), .bool x13.wants, .int .i64 (x13.gave), .int .i64 (x13.got), .bool x13.snb, .int .i64 (x13.lt)] 57 (0, 0)), Rw 3 1 po O.length co (fl intL O), Old w no] := H20.absorb (new := []) H32
                    refine b_ret rfl rfl ?_
                    refine a_k H32 ?_
                    refine a_take (v := .bool (!((decide (x13.peer ∈ O))))) 15 rfl (wt1 rfl rfl rfl rfl (neg_of hb30)) rfl rfl rfl (by kernel_rfl) (by kernel_rfl) (by kernel_rfl) (by kernel_rfl) H32 (fun wx H => x_not (b := (decide (x13.peer ∈ O))) rfl rfl) ?_
                    refine a_take (v := .bool (!((decide (x13.peer ∈ O))))) 16 rfl (wt0 rfl) rfl rfl rfl (by kernel_rfl) (by kernel_rfl) (by kernel_rfl) (by kernel_rfl) H32 (fun wx H => x_pick_t rfl rfl (neg_of hb30) rfl) ?_
                    refine a_take (v := .bool (!((decide (x13.peer ∈ O))))) 17 rfl (wt0 rfl) rfl rfl rfl (by kernel_rfl) (by kernel_rfl) (by kernel_rfl) (by kernel_rfl) H32 (fun wx H => x_move rfl rfl) ?_
                    rcases Bool.eq_false_or_eq_true ((decide (x13.peer ∈ O))) with hb33 | hb33
                    · skip
                      refine a_not 18 rfl (wn1 rfl rfl rfl rfl (neg_of hb33)) rfl rfl rfl (by kernel_rfl) (by kernel_rfl) (by kernel_rfl) (by kernel_rfl) H32 ?_
                      refine a_not 19 rfl (wn1 rfl rfl rfl rfl (neg_of hb33)) rfl rfl rfl (by kernel_rfl) (by kernel_rfl) (by kernel_rfl) (by kernel_rfl) H32 ?_
                      refine a_not 20 rfl (wn1 rfl rfl rfl rfl (neg_of hb33)) rfl rfl rfl (by kernel_rfl) (by kernel_rfl) (by kernel_rfl) (by kernel_rfl) H32 ?_
                      refine a_not 21 rfl (wn2 rfl rfl rfl rfl) rfl rfl rfl (by kernel_rfl) (by kernel_rfl) (by kernel_rfl) (by kernel_rfl) H32 ?_
                      refine a_not 22 rfl (wn2 rfl rfl rfl rfl) rfl rfl rfl (by kernel_rfl) (by kernel_rfl) (by kernel_rfl) (by kernel_rfl) H32 ?_
                      refine a_not 23 rfl (wn2 rfl rfl rfl rfl) rfl rfl rfl (by kernel_rfl) (by kernel_rfl) (by kernel_rfl) (by kernel_rfl) H32 ?_
                      refine a_not 24 rfl (wn2 rfl rfl rfl rfl) rfl rfl rfl (by kernel_rfl) (by kernel_rfl) (by kernel_rfl) (by kernel_rfl) H32 ?_
                      refine a_not 25 rfl (wn2 rfl rfl rfl rfl) rfl rfl rfl (by kernel_rfl) (by kernel_rfl) (by kernel_rfl) (by kernel_rfl) H32 ?_
                      refine a_not 26 rfl (wn2 rfl rfl rfl rfl) rfl rfl rfl (by kernel_rfl) (by kernel_rfl) (by kernel_rfl) (by kernel_rfl) H32 ?_
                      refine a_one (i := 27) (by kernel_rfl) rfl ?_
                      refine s_not (wn2 rfl rfl rfl rfl) rfl rfl ?_
                      refine a_k H32 ?_
                      refine a_not 28 rfl (wn1 rfl rfl rfl rfl (neg_of hb33)) rfl rfl rfl (by kernel_rfl) (by kernel_rfl) (by kernel_rfl) (by kernel_rfl) H32 ?_
                      refine a_take (v := .bool false) 29 rfl (wt0 rfl) rfl rfl rfl (by kernel_rfl) (by kernel_rfl) (by kernel_rfl) (by kernel_rfl) H32 (fun wx H => x_pick_f rfl rfl (neg_of hb33) rfl) ?_
                      refine a_done (by kernel_rfl) ?_
                      refine g_then ?_
                      refine g_weak [(0, .slice p n c), (1, .int .i64 slots), (2, .bool sd), (3, .int .i64 turn), (11, .slice po O.length co), (12, .int .i64 at9), (13, .int .i64 ((i9 : Int))), (37, .slice p n c), (38, .int .i64 ((n : Int))), (39, .int .i64 ((i9 : Int))), (47, .bool sd), (48, .bool sd), (49, .pointer (some ⟨g14, 4, none⟩)), (50, .bool x13.snb), (51, .bool (!(x13.snb))), (52, .bool (!(x13.snb))), (55, .slice po O.length co), (56, .pointer (some ⟨g14, 0, none⟩)), (57, .int .i64 (x13.peer)), (58, .bool ((decide (x13.peer ∈ O)))), (59, .bool (!((decide (x13.peer ∈ O))))), (62, undef), (63, undef), (64, undef), (65, undef), (66, undef), (67, undef), (68, undef), (69, undef), (70, undef), (71, undef), (72, undef), (73, .bool false)] ⟨rfl, rfl, rfl, rfl, rfl, rfl, rfl, rfl, rfl, rfl, rfl, rfl, rfl, rfl, rfl, rfl, rfl, rfl, rfl, rfl, rfl, rfl, rfl, rfl, rfl, rfl, rfl, rfl, rfl, rfl, rfl, rfl, rfl, trivial⟩ ?_
                      refine g_cond_f rfl rfl ?_
                      refine g_skip ?_
                      refine g_in ?_
                      refine g_then ?_
                      refine g_region ?_
                      refine l_of (s_val (v := .int .i64 (((i9 + 1 : Nat) : Int))) (wt0 rfl) rfl rfl (x_bin rfl rfl rfl (b_add (by rw [w64 (by omega)]; omega))) ?_)
                      refine l_of (s_val (v := .int .i64 (((i9 + 1 : Nat) : Int))) (wt0 rfl) rfl rfl (x_move rfl rfl) ?_)
                      refine g_nil ?_
                      refine g_then ?_
                      refine g_round (i := (i9, at9)) ((i9 + 1), at9) ?_ ?_ ?_
                      · exact ⟨rfl, rfl, rfl, rfl, rfl, rfl, rfl, rfl, rfl, trivial⟩
                      · exact ⟨by omega, (hat.skip hx13 (by rw [PE_1]; simp [hb6, hb21, hb22, hb30, hb33])), (H32.takes [1, 2] (by decide))⟩
                      · (try dsimp only); omega
                    · skip
                      refine a_take (v := .int .i64 at9) 18 rfl (wt1 rfl rfl rfl rfl (neg_of hb33)) rfl rfl rfl (by kernel_rfl) (by kernel_rfl) (by kernel_rfl) (by kernel_rfl) H32 (fun wx H => x_move rfl rfl) ?_
                      refine a_take (v := .bool (decide ((at9 : Int) < 0))) 19 rfl (wt1 rfl rfl rfl rfl (neg_of hb33)) rfl rfl rfl (by kernel_rfl) (by kernel_rfl) (by kernel_rfl) (by kernel_rfl) H32 (fun wx H => x_bin rfl rfl rfl b_lss) ?_
                      refine a_take (v := .bool (decide ((at9 : Int) < 0))) 20 rfl (wt1 rfl rfl rfl rfl (neg_of hb33)) rfl rfl rfl (by kernel_rfl) (by kernel_rfl) (by kernel_rfl) (by kernel_rfl) H32 (fun wx H => x_move rfl rfl) ?_
                      by_cases hb34 : (at9 : Int) < 0
                      · skip
                        refine a_not 21 rfl (wn1 rfl rfl rfl rfl (decide_eq_true hb34)) rfl rfl rfl (by kernel_rfl) (by kernel_rfl) (by kernel_rfl) (by kernel_rfl) H32 ?_
                        refine a_not 22 rfl (wn1 rfl rfl rfl rfl (decide_eq_true hb34)) rfl rfl rfl (by kernel_rfl) (by kernel_rfl) (by kernel_rfl) (by kernel_rfl) H32 ?_
                        refine a_not 23 rfl (wn1 rfl rfl rfl rfl (decide_eq_true hb34)) rfl rfl rfl (by kernel_rfl) (by kernel_rfl) (by kernel_rfl) (by kernel_rfl) H32 ?_
                        refine a_not 24 rfl (wn1 rfl rfl rfl rfl (decide_eq_true hb34)) rfl rfl rfl (by kernel_rfl) (by kernel_rfl) (by kernel_rfl) (by kernel_rfl) H32 ?_
                        refine a_not 25 rfl (wn1 rfl rfl rfl rfl (decide_eq_true hb34)) rfl rfl rfl (by kernel_rfl) (by kernel_rfl) (by kernel_rfl) (by kernel_rfl) H32 ?_
                        refine a_not 26 rfl (wn1 rfl rfl rfl rfl (decide_eq_true hb34)) rfl rfl rfl (by kernel_rfl) (by kernel_rfl) (by kernel_rfl) (by kernel_rfl) H32 ?_
                        refine a_one (i := 27) (by kernel_rfl) rfl ?_
                        refine s_not (wn1 rfl rfl rfl rfl (decide_eq_true hb34)) rfl rfl ?_
                        refine a_k H32 ?_
                        refine a_take (v := .bool true) 28 rfl (wt1 rfl rfl rfl rfl (neg_of hb33)) rfl rfl rfl (by kernel_rfl) (by kernel_rfl) (by kernel_rfl) (by kernel_rfl) H32 (fun wx H => x_pick_t rfl rfl (decide_eq_true hb34) rfl) ?_
                        refine a_take (v := .bool true) 29 rfl (wt0 rfl) rfl rfl rfl (by kernel_rfl) (by kernel_rfl) (by kernel_rfl) (by kernel_rfl) H32 (fun wx H => x_pick_t rfl rfl (neg_of hb33) rfl) ?_
                        refine a_done (by kernel_rfl) ?_
                        refine g_then ?_
                        refine g_weak [(0, .slice p n c), (1, .int .i64 slots), (2, .bool sd), (3, .int .i64 turn), (11, .slice po O.length co), (12, .int .i64 at9), (13, .int .i64 ((i9 : Int))), (37, .slice p n c), (38, .int .i64 ((n : Int))), (39, .int .i64 ((i9 : Int))), (47, .bool sd), (48, .bool sd), (49, .pointer (some ⟨g14, 4, none⟩)), (50, .bool x13.snb), (51, .bool (!(x13.snb))), (52, .bool (!(x13.snb))), (55, .slice po O.length co), (56, .pointer (some ⟨g14, 0, none⟩)), (57, .int .i64 (x13.peer)), (58, .bool ((decide (x13.peer ∈ O)))), (59, .bool (!((decide (x13.peer ∈ O))))), (62, .int .i64 at9), (63, .bool (decide ((at9 : Int) < 0))), (64, .bool (decide ((at9 : Int) < 0))), (65, undef), (66, undef), (67, undef), (68, undef), (69, undef), (70, undef), (71, undef), (72, .bool true), (73, .bool true)] ⟨rfl, rfl, rfl, rfl, rfl, rfl, rfl, rfl, rfl, rfl, rfl, rfl, rfl, rfl, rfl, rfl, rfl, rfl, rfl, rfl, rfl, rfl, rfl, rfl, rfl, rfl, rfl, rfl, rfl, rfl, rfl, rfl, rfl, trivial⟩ ?_
                        refine g_cond_t rfl rfl ?_
                        refine g_region ?_
                        refine l_of (s_val (v := .int .i64 ((i9 : Int))) (wt0 rfl) rfl rfl (x_move rfl rfl) ?_)
                        refine l_of (s_val (v := .int .i64 ((i9 : Int))) (wt0 rfl) rfl rfl (x_assign rfl rfl) ?_)
                        refine g_nil ?_
                        refine g_in ?_
                        refine g_then ?_
                        refine g_region ?_
                        refine l_of (s_val (v := .int .i64 (((i9 + 1 : Nat) : Int))) (wt0 rfl) rfl rfl (x_bin rfl rfl rfl (b_add (by rw [w64 (by omega)]; omega))) ?_)
                        refine l_of (s_val (v := .int .i64 (((i9 + 1 : Nat) : Int))) (wt0 rfl) rfl rfl (x_move rfl rfl) ?_)
                        refine g_nil ?_
                        refine g_then ?_
                        refine g_round (i := (i9, at9)) ((i9 + 1), (i9 : Int)) ?_ ?_ ?_
                        · exact ⟨rfl, rfl, rfl, rfl, rfl, rfl, rfl, rfl, rfl, trivial⟩
                        · exact ⟨by omega, (hat.first (cF_wk.comap (toRv sd)) hb34 hx13 (by rw [PE_1]; simp [hb6, hb21, hb22, hb30, hb33, hb34])), (H32.takes [1, 2] (by decide))⟩
                        · (try dsimp only); omega
                      · skip
                        obtain ⟨j2, z2, rfl, hj2, hz2, hPz2, hbz2⟩ := hat.at hb34
                        have hjl2 := (List.getElem?_eq_some_iff.1 hz2).1
                        refine a_take (v := .bool sd) 21 rfl (wt1 rfl rfl rfl rfl (decide_eq_false hb34)) rfl rfl rfl (by kernel_rfl) (by kernel_rfl) (by kernel_rfl) (by kernel_rfl) H32 (fun wx H => x_move rfl rfl) ?_
                        refine a_take (v := .agg #[.int .i64 (x13.peer), .bool x13.wants, .int .i64 (x13.gave), .int .i64 (x13.got), .bool x13.snb, .int .i64 (x13.lt)]) 22 rfl (wt1 rfl rfl rfl rfl (decide_eq_false hb34)) rfl rfl rfl (by kernel_rfl) (by kernel_rfl) (by kernel_rfl) (by kernel_rfl) H32 (fun wx H => x_loadA H 0 rfl rfl Try.underlying57 rfl sz57 rfl rfl rfl) ?_
                        refine a_take (v := .slice p n c) 23 rfl (wt1 rfl rfl rfl rfl (decide_eq_false hb34)) rfl rfl rfl (by kernel_rfl) (by kernel_rfl) (by kernel_rfl) (by kernel_rfl) H32 (fun wx H => x_move rfl rfl) ?_
                        refine a_take (v := .int .i64 ((j2 : Int))) 24 rfl (wt1 rfl rfl rfl rfl (decide_eq_false hb34)) rfl rfl rfl (by kernel_rfl) (by kernel_rfl) (by kernel_rfl) (by kernel_rfl) H32 (fun wx H => x_move rfl rfl) ?_
                        refine a_take (v := .pointer ((p).map fun q => q.add (j2 * 6))) 25 rfl (wt1 rfl rfl rfl rfl (decide_eq_false hb34)) rfl rfl rfl (by kernel_rfl) (by kernel_rfl) (by kernel_rfl) (by kernel_rfl) H32 (fun wx H => x_idxP j2 ((H32.exReads (k := 2) rfl hr (fun _ _ _ h => h)).some (by omega)) rfl rfl rfl Try.underlying33 sz57 (by omega)) ?_
                        refine a_take (v := .agg #[.int .i64 (z2.peer), .bool z2.wants, .int .i64 (z2.gave), .int .i64 (z2.got), .bool z2.snb, .int .i64 (z2.lt)]) 26 rfl (wt1 rfl rfl rfl rfl (decide_eq_false hb34)) rfl rfl rfl (by kernel_rfl) (by kernel_rfl) (by kernel_rfl) (by kernel_rfl) H32 (fun wx H => x_loadRA (vs := rtL z2) j2 (H.exReads (k := 2) rfl hr (fun _ _ _ h => h)) (by omega) rfl rfl Try.underlying57 rfl sz57 (by rfl) (rtE.flAt hz2)) ?_
                        refine a_one (i := 27) (by kernel_rfl) rfl ?_
                        refine s_call (wt1 rfl rfl rfl rfl (decide_eq_false hb34)) (x_call' rfl rfl cl47) (ahead_r sd x13 z2 _) ?_
                        rintro _ wq35 ⟨rfl, H36⟩
                        replace H36 : S wq35 [Ob g14 (.cells #[.int .i64 (x13.peer), .bool x13.wants, .int .i64 (x13.gave), .int .i64 (x13.got), .bool x13.snb, .int .i64 (x13.lt)] 57 (0, 0)), Rw 3 1 po O.length co (fl intL O), Old w no] := H32.absorb (new := []) H36
                        refine b_ret rfl rfl ?_
                        refine a_k H36 ?_
                        refine a_take (v := .bool ((decide (cF (toRv sd x13) (toRv sd z2) < 0)))) 28 rfl (wt1 rfl rfl rfl rfl (neg_of hb33)) rfl rfl rfl (by kernel_rfl) (by kernel_rfl) (by kernel_rfl) (by kernel_rfl) H36 (fun wx H => x_pick_f rfl rfl (decide_eq_false hb34) rfl) ?_
                        refine a_take (v := .bool ((decide (cF (toRv sd x13) (toRv sd z2) < 0)))) 29 rfl (wt0 rfl) rfl rfl rfl (by kernel_rfl) (by kernel_rfl) (by kernel_rfl) (by kernel_rfl) H36 (fun wx H => x_pick_t rfl rfl (neg_of hb33) rfl) ?_
                        refine a_done (by kernel_rfl) ?_
                        refine g_then ?_
                        refine g_weak [(0, .slice p n c), (1, .int .i64 slots), (2, .bool sd), (3, .int .i64 turn), (11, .slice po O.length co), (12, .int .i64 ((j2 : Int))), (13, .int .i64 ((i9 : Int))), (37, .slice p n c), (38, .int .i64 ((n : Int))), (39, .int .i64 ((i9 : Int))), (47, .bool sd), (48, .bool sd), (49, .pointer (some ⟨g14, 4, none⟩)), (50, .bool x13.snb), (51, .bool (!(x13.snb))), (52, .bool (!(x13.snb))), (55, .slice po O.length co), (56, .pointer (some ⟨g14, 0, none⟩)), (57, .int .i64 (x13.peer)), (58, .bool ((decide (x13.peer ∈ O)))), (59, .bool (!((decide (x13.peer ∈ O))))), (62, .int .i64 ((j2 : Int))), (63, .bool (decide (((j2 : Int) : Int) < 0))), (64, .bool (decide (((j2 : Int) : Int) < 0))), (65, .bool sd), (66, .agg #[.int .i64 (x13.peer), .bool x13.wants, .int .i64 (x13.gave), .int .i64 (x13.got), .bool x13.snb, .int .i64 (x13.lt)]), (67, .slice p n c), (68, .int .i64 ((j2 : Int))), (69, .pointer ((p).map fun q => q.add (j2 * 6))), (70, .agg #[.int .i64 (z2.peer), .bool z2.wants, .int .i64 (z2.gave), .int .i64 (z2.got), .bool z2.snb, .int .i64 (z2.lt)]), (71, .bool ((decide (cF (toRv sd x13) (toRv sd z2) < 0)))), (72, .bool ((decide (cF (toRv sd x13) (toRv sd z2) < 0)))), (73, .bool ((decide (cF (toRv sd x13) (toRv sd z2) < 0))))] ⟨rfl, rfl, rfl, rfl, rfl, rfl, rfl, rfl, rfl, rfl, rfl, rfl, rfl, rfl, rfl, rfl, rfl, rfl, rfl, rfl, rfl, rfl, rfl, rfl, rfl, rfl, rfl, rfl, rfl, rfl, rfl, rfl, rfl, trivial⟩ ?_
                        rcases Bool.eq_false_or_eq_true ((decide (cF (toRv sd x13) (toRv sd z2) < 0))) with hb37 | hb37
                        · skip
                          refine g_cond_t rfl hb37 ?_
                          refine g_region ?_
                          refine l_of (s_val (v := .int .i64 ((i9 : Int))) (wt0 rfl) rfl rfl (x_move rfl rfl) ?_)
                          refine l_of (s_val (v := .int .i64 ((i9 : Int))) (wt0 rfl) rfl rfl (x_assign rfl rfl) ?_)
                          refine g_nil ?_
                          refine g_in ?_
                          refine g_then ?_
                          refine g_region ?_
                          refine l_of (s_val (v := .int .i64 (((i9 + 1 : Nat) : Int))) (wt0 rfl) rfl rfl (x_bin rfl rfl rfl (b_add (by rw [w64 (by omega)]; omega))) ?_)
                          refine l_of (s_val (v := .int .i64 (((i9 + 1 : Nat) : Int))) (wt0 rfl) rfl rfl (x_move rfl rfl) ?_)
                          refine g_nil ?_
                          refine g_then ?_
                          refine g_round (i := (i9, (j2 : Int))) ((i9 + 1), (i9 : Int)) ?_ ?_ ?_
                          · exact ⟨rfl, rfl, rfl, rfl, rfl, rfl, rfl, rfl, rfl, trivial⟩
                          · exact ⟨by omega, (AtB.better (cF_wk.comap (toRv sd)) hbz2 hx13 (by rw [PE_1]; simp [hb6, hb21, hb22, hb30, hb33, hb34, hb37]) (of_decide_eq_true hb37)), (H36.takes [1, 2] (by decide))⟩
                          · (try dsimp only); omega
                        · skip
                          refine g_cond_f rfl hb37 ?_
                          refine g_skip ?_
                          refine g_in ?_
                          refine g_then ?_
                          refine g_region ?_
                          refine l_of (s_val (v := .int .i64 (((i9 + 1 : Nat) : Int))) (wt0 rfl) rfl rfl (x_bin rfl rfl rfl (b_add (by rw [w64 (by omega)]; omega))) ?_)
                          refine l_of (s_val (v := .int .i64 (((i9 + 1 : Nat) : Int))) (wt0 rfl) rfl rfl (x_move rfl rfl) ?_)
                          refine g_nil ?_
                          refine g_then ?_
                          refine g_round (i := (i9, (j2 : Int))) ((i9 + 1), (j2 : Int)) ?_ ?_ ?_
                          · exact ⟨rfl, rfl, rfl, rfl, rfl, rfl, rfl, rfl, rfl, trivial⟩
                          · exact ⟨by omega, (AtB.stay hj2 hz2 hPz2 hbz2 hx13 (of_decide_eq_false hb37)), (H36.takes [1, 2] (by decide))⟩
                          · (try dsimp only); omega
              · skip
                refine a_not 3 rfl (wn1 rfl rfl rfl rfl hb21) rfl rfl rfl (by kernel_rfl) (by kernel_rfl) (by kernel_rfl) (by kernel_rfl) H20 ?_
                refine a_not 4 rfl (wn1 rfl rfl rfl rfl hb21) rfl rfl rfl (by kernel_rfl) (by kernel_rfl) (by kernel_rfl) (by kernel_rfl) H20 ?_
                refine a_not 5 rfl (wn2 rfl rfl rfl rfl) rfl rfl rfl (by kernel_rfl) (by kernel_rfl) (by kernel_rfl) (by kernel_rfl) H20 ?_
                refine a_not 6 rfl (wn2 rfl rfl rfl rfl) rfl rfl rfl (by kernel_rfl) (by kernel_rfl) (by kernel_rfl) (by kernel_rfl) H20 ?_
                refine a_not 7 rfl (wn2 rfl rfl rfl rfl) rfl rfl rfl (by kernel_rfl) (by kernel_rfl) (by kernel_rfl) (by kernel_rfl) H20 ?_
                refine a_not 8 rfl (wn1 rfl rfl rfl rfl hb21) rfl rfl rfl (by kernel_rfl) (by kernel_rfl) (by kernel_rfl) (by kernel_rfl) H20 ?_
                refine a_take (v := .bool false) 9 rfl (wt0 rfl) rfl rfl rfl (by kernel_rfl) (by kernel_rfl) (by kernel_rfl) (by kernel_rfl) H20 (fun wx H => x_pick_f rfl rfl hb21 rfl) ?_
                refine a_take (v := .bool false) 10 rfl (wt0 rfl) rfl rfl rfl (by kernel_rfl) (by kernel_rfl) (by kernel_rfl) (by kernel_rfl) H20 (fun wx H => x_move rfl rfl) ?_
                refine a_not 11 rfl (wn1 rfl rfl rfl rfl rfl) rfl rfl rfl (by kernel_rfl) (by kernel_rfl) (by kernel_rfl) (by kernel_rfl) H20 ?_
                refine a_not 12 rfl (wn1 rfl rfl rfl rfl rfl) rfl rfl rfl (by kernel_rfl) (by kernel_rfl) (by kernel_rfl) (by kernel_rfl) H20 ?_
                refine a_not 13 rfl (wn1 rfl rfl rfl rfl rfl) rfl rfl rfl (by kernel_rfl) (by kernel_rfl) (by kernel_rfl) (by kernel_rfl) H20 ?_
                refine a_one (i := 14) (by kernel_rfl) rfl ?_
                refine s_not (wn1 rfl rfl rfl rfl rfl) rfl rfl ?_
                refine a_k H20 ?_
                refine a_not 15 rfl (wn1 rfl rfl rfl rfl rfl) rfl rfl rfl (by kernel_rfl) (by kernel_rfl) (by kernel_rfl) (by kernel_rfl) H20 ?_
                refine a_take (v := .bool false) 16 rfl (wt0 rfl) rfl rfl rfl (by kernel_rfl) (by kernel_rfl) (by kernel_rfl) (by kernel_rfl) H20 (fun wx H => x_pick_f rfl rfl rfl rfl) ?_
                refine a_take (v := .bool false) 17 rfl (wt0 rfl) rfl rfl rfl (by kernel_rfl) (by kernel_rfl) (by kernel_rfl) (by kernel_rfl) H20 (fun wx H => x_move rfl rfl) ?_
                refine a_not 18 rfl (wn1 rfl rfl rfl rfl rfl) rfl rfl rfl (by kernel_rfl) (by kernel_rfl) (by kernel_rfl) (by kernel_rfl) H20 ?_
                refine a_not 19 rfl (wn1 rfl rfl rfl rfl rfl) rfl rfl rfl (by kernel_rfl) (by kernel_rfl) (by kernel_rfl) (by kernel_rfl) H20 ?_
                refine a_not 20 rfl (wn1 rfl rfl rfl rfl rfl) rfl rfl rfl (by kernel_rfl) (by kernel_rfl) (by kernel_rfl) (by kernel_rfl) H20 ?_
                refine a_not 21 rfl (wn2 rfl rfl rfl rfl) rfl rfl rfl (by kernel_rfl) (by kernel_rfl) (by kernel_rfl) (by kernel_rfl) H20 ?_
                refine a_not 22 rfl (wn2 rfl rfl rfl rfl) rfl rfl rfl (by kernel_rfl) (by kernel_rfl) (by kernel_rfl) (by kernel_rfl) H20 ?_
                refine a_not 23 rfl (wn2 rfl rfl rfl rfl) rfl rfl rfl (by kernel_rfl) (by kernel_rfl) (by kernel_rfl) (by kernel_rfl) H20 ?_
                refine a_not 24 rfl (wn2 rfl rfl rfl rfl) rfl rfl rfl (by kernel_rfl) (by kernel_rfl) (by kernel_rfl) (by kernel_rfl) H20 ?_
                refine a_not 25 rfl (wn2 rfl rfl rfl rfl) rfl rfl rfl (by kernel_rfl) (by kernel_rfl) (by kernel_rfl) (by kernel_rfl) H20 ?_
                refine a_not 26 rfl (wn2 rfl rfl rfl rfl) rfl rfl rfl (by kernel_rfl) (by kernel_rfl) (by kernel_rfl) (by kernel_rfl) H20 ?_
                refine a_one (i := 27) (by kernel_rfl) rfl ?_
                refine s_not (wn2 rfl rfl rfl rfl) rfl rfl ?_
                refine a_k H20 ?_
                refine a_not 28 rfl (wn1 rfl rfl rfl rfl rfl) rfl rfl rfl (by kernel_rfl) (by kernel_rfl) (by kernel_rfl) (by kernel_rfl) H20 ?_
                refine a_take (v := .bool false) 29 rfl (wt0 rfl) rfl rfl rfl (by kernel_rfl) (by kernel_rfl) (by kernel_rfl) (by kernel_rfl) H20 (fun wx H => x_pick_f rfl rfl rfl rfl) ?_
                refine a_done (by kernel_rfl) ?_
                refine g_then ?_
                refine g_weak [(0, .slice p n c), (1, .int .i64 slots), (2, .bool sd), (3, .int .i64 turn), (11, .slice po O.length co), (12, .int .i64 at9), (13, .int .i64 ((i9 : Int))), (37, .slice p n c), (38, .int .i64 ((n : Int))), (39, .int .i64 ((i9 : Int))), (47, undef), (48, undef), (49, undef), (50, undef), (51, undef), (52, undef), (55, undef), (56, undef), (57, undef), (58, undef), (59, undef), (62, undef), (63, undef), (64, undef), (65, undef), (66, undef), (67, undef), (68, undef), (69, undef), (70, undef), (71, undef), (72, undef), (73, .bool false)] ⟨rfl, rfl, rfl, rfl, rfl, rfl, rfl, rfl, rfl, rfl, rfl, rfl, rfl, rfl, rfl, rfl, rfl, rfl, rfl, rfl, rfl, rfl, rfl, rfl, rfl, rfl, rfl, rfl, rfl, rfl, rfl, rfl, rfl, trivial⟩ ?_
                refine g_cond_f rfl rfl ?_
                refine g_skip ?_
                refine g_in ?_
                refine g_then ?_
                refine g_region ?_
                refine l_of (s_val (v := .int .i64 (((i9 + 1 : Nat) : Int))) (wt0 rfl) rfl rfl (x_bin rfl rfl rfl (b_add (by rw [w64 (by omega)]; omega))) ?_)
                refine l_of (s_val (v := .int .i64 (((i9 + 1 : Nat) : Int))) (wt0 rfl) rfl rfl (x_move rfl rfl) ?_)
                refine g_nil ?_
                refine g_then ?_
                refine g_round (i := (i9, at9)) ((i9 + 1), at9) ?_ ?_ ?_
                · exact ⟨rfl, rfl, rfl, rfl, rfl, rfl, rfl, rfl, rfl, trivial⟩
                · exact ⟨by omega, (hat.skip hx13 (by rw [PE_1]; simp [hb6, hb21])), (H20.takes [1, 2] (by decide))⟩
                · (try dsimp only); omega
            · skip
              refine g_cond_f rfl (decide_eq_false hb12) ?_
              refine g_exit ?_
              refine g_then_exit ?_
              refine g_then_exit ?_
              refine g_in_hit ?_
              refine g_then ?_
              refine g_seq ?_
              refine g_seq ?_
              refine g_region ?_
              refine l_of (s_val (v := .int .i64 at9) (wt0 rfl) rfl rfl (x_move rfl rfl) ?_)
              refine l_of (s_val (v := .bool (decide ((at9 : Int) < 0))) (wt0 rfl) rfl rfl (x_bin rfl rfl rfl b_lss) ?_)
              refine g_nil ?_
              refine g_then ?_
              by_cases hb38 : (at9 : Int) < 0
              · skip
                refine g_cond_t rfl (decide_eq_true hb38) ?_
                refine g_exit ?_
                have hF : O = (firstV l slots sd).map Rv.id := first_end hO hks (.inr (pick_none hnd hO (by have h9 := hat.none hb38; rw [List.take_of_length_le (by omega)] at h9; exact h9)))
                refine g_then_exit ?_
                refine g_in_miss rfl ?_
                refine g_then_exit ?_
                refine g_in_hit ?_
                refine g_then ?_
                refine g_seq ?_
                refine g_region ?_
                refine l_of (s_val (v := .int .i64 (-1)) (wt0 rfl) rfl rfl (x_assign rfl rfl) ?_)
                refine g_nil ?_
                refine g_then ?_
                refine g_seq ?_
                refine g_seq ?_
                refine g_region ?_
                refine l_of (s_val (v := .slice p n c) (wt0 rfl) rfl rfl (x_move rfl rfl) ?_)
                refine l_of (s_val (v := .int .i64 ((n : Int))) (wt0 rfl) rfl rfl (x_lenl rfl rfl Try.underlying33) ?_)
                refine l_of (s_val (v := .int .i64 0) (wt0 rfl) rfl rfl (x_move rfl rfl) ?_)
                refine g_nil ?_
                refine g_then ?_
                refine g_block ?_
                refine g_loop (ι := Nat × Int) (fun (i8, at8) => [(0, .slice p n c), (3, .int .i64 turn), (11, .slice po O.length co), (15, .int .i64 at8), (86, .slice p n c), (87, .int .i64 ((n : Int))), (88, .int .i64 ((i8 : Int)))]) (fun (i8, at8) wx => (i8 ≤ n) ∧ (AtB (fun a b => cR turn (toRv sd a) (toRv sd b)) (fun y => q2 O (toRv sd y)) l i8 at8) ∧ S wx [Rw 3 1 po O.length co (fl intL O), Old w no]) (fun (i8, at8) => n - i8) (0, (-1)) ⟨rfl, rfl, rfl, rfl, rfl, rfl, rfl, trivial⟩ ⟨Nat.zero_le _, AtB.start, (H11.takes [0, 1] (by decide))⟩ ?_
                rintro ⟨i8, at8⟩ wq39 ⟨hi8, hat, H40⟩
                replace H40 : S wq39 [Rw 3 1 po O.length co (fl intL O), Old w no] := H40
                refine g_weak [(0, .slice p n c), (3, .int .i64 turn), (11, .slice po O.length co), (15, .int .i64 at8), (86, .slice p n c), (87, .int .i64 ((n : Int))), (88, .int .i64 ((i8 : Int)))] ⟨rfl, rfl, rfl, rfl, rfl, rfl, rfl, trivial⟩ ?_
                refine g_seq ?_
                refine g_region ?_
                refine l_of (s_val (v := .bool (decide (((i8 : Int) : Int) < (n : Int)))) (wt0 rfl) rfl rfl (x_bin rfl rfl rfl b_lss) ?_)
                refine g_nil ?_
                refine g_then ?_
                refine g_seq ?_
                by_cases hb41 : ((i8 : Int) : Int) < (n : Int)
                · skip
                  refine g_cond_t rfl (decide_eq_true hb41) ?_
                  refine g_skip ?_
                  refine g_then ?_
                  refine g_seq ?_
                  refine g_block ?_
                  refine g_seq ?_
                  refine g_region ?_
                  refine l_of (s_val (v := .int .i64 ((i8 : Int))) (wt0 rfl) rfl rfl (x_move rfl rfl) ?_)
                  refine l_of (s_val (v := .pointer ((p).map fun q => q.add (i8 * 6))) (wt0 rfl) rfl rfl (x_idxR i8 (H40.exReads (k := 1) rfl hr (fun _ _ _ h => h)) rfl rfl rfl Try.underlying33 sz57 (by omega)) ?_)
                  have hlq := (H40.exReads (k := 1) rfl hr (fun _ _ _ h => h)).lenL rtE
                  obtain ⟨x42, hx42⟩ := ex_at (l := l) (j := i8) (by omega)
                  clear hlq
                  refine l_of (s_val (v := .agg #[.int .i64 (x42.peer), .bool x42.wants, .int .i64 (x42.gave), .int .i64 (x42.got), .bool x42.snb, .int .i64 (x42.lt)]) (wt0 rfl) rfl rfl (x_loadRA (vs := rtL x42) i8 (H40.exReads (k := 1) rfl hr (fun _ _ _ h => h)) (by omega) rfl rfl Try.underlying57 rfl sz57 (by rfl) (rtE.flAt hx42)) ?_)
                  refine l_of (s_alloc H40 (wt0 rfl) rfl rfl rfl ze57 ?_)
                  intro g43 wq44 H45
                  refine l_of (s_val (v := .int .i64 ((i8 : Int))) (wt0 rfl) rfl rfl (x_assign rfl rfl) ?_)
                  refine l_of (s_store H45 0 (wt0 rfl) rfl rfl rfl rfl rfl sz57 rfl rfl (cs' := #[.int .i64 (x42.peer), .bool x42.wants, .int .i64 (x42.gave), .int .i64 (x42.got), .bool x42.snb, .int .i64 (x42.lt)]) rfl ?_)
                  intro wq46 H47
                  refine g_nil ?_
                  refine g_then ?_
                  refine g_seq ?_
                  refine g_any [] (fun wx => S wx [Ob g43 (.cells #[.int .i64 (x42.peer), .bool x42.wants, .int .i64 (x42.gave), .int .i64 (x42.got), .bool x42.snb, .int .i64 (x42.lt)] 57 (0, 0)), Rw 3 1 po O.length co (fl intL O), Old w no]) [] (by kernel_rfl) H47 (fun wq48 H49 => ?_)
                  refine a_take (v := .pointer (some ⟨g43, 1, none⟩)) 0 rfl (wt0 rfl) rfl rfl rfl (by kernel_rfl) (by kernel_rfl) (by kernel_rfl) (by kernel_rfl) H49 (fun wx H => x_fieldAddr rfl rfl fo57_1 rfl) ?_
                  refine a_take (v := .bool x42.wants) 1 rfl (wt0 rfl) rfl rfl rfl (by kernel_rfl) (by kernel_rfl) (by kernel_rfl) (by kernel_rfl) H49 (fun wx H => x_load1 H 0 rfl rfl Try.underlying4 rfl rfl rfl) ?_
                  refine a_take (v := .bool x42.wants) 2 rfl (wt0 rfl) rfl rfl rfl (by kernel_rfl) (by kernel_rfl) (by kernel_rfl) (by kernel_rfl) H49 (fun wx H => x_move rfl rfl) ?_
                  rcases Bool.eq_false_or_eq_true (x42.wants) with hb50 | hb50
                  · skip
                    refine a_take (v := .slice po O.length co) 3 rfl (wt1 rfl rfl rfl rfl hb50) rfl rfl rfl (by kernel_rfl) (by kernel_rfl) (by kernel_rfl) (by kernel_rfl) H49 (fun wx H => x_move rfl rfl) ?_
                    refine a_take (v := .pointer (some ⟨g43, 0, none⟩)) 4 rfl (wt1 rfl rfl rfl rfl hb50) rfl rfl rfl (by kernel_rfl) (by kernel_rfl) (by kernel_rfl) (by kernel_rfl) H49 (fun wx H => x_fieldAddr rfl rfl fo57_0 rfl) ?_
                    refine a_take (v := .int .i64 (x42.peer)) 5 rfl (wt1 rfl rfl rfl rfl hb50) rfl rfl rfl (by kernel_rfl) (by kernel_rfl) (by kernel_rfl) (by kernel_rfl) H49 (fun wx H => x_load1 H 0 rfl rfl Try.underlying3 rfl rfl rfl) ?_
                    refine a_one (i := 6) (by kernel_rfl) rfl ?_
                    refine s_call (wt1 rfl rfl rfl rfl hb50) (x_call' rfl rfl cl30) (in_r O po O.length co x42.peer (by omega) _ (H49.rwReads (k := 1) rfl)) ?_
                    rintro _ wq51 ⟨rfl, H52⟩
                    replace H52 : S wq51 [Ob g43 (.cells #[.int .i64 (x42.peer), .bool x42.wants, .int .i64 (x42.gave), .int .i64 (x42.got), .bool x42.snb, .int .i64 (x42.lt)] 57 (0, 0)), Rw 3 1 po O.length co (fl intL O), Old w no] := H49.absorb (new := []) H52
                    refine b_ret rfl rfl ?_
                    refine a_k H52 ?_
                    refine a_take (v := .bool (!((decide (x42.peer ∈ O))))) 7 rfl (wt1 rfl rfl rfl rfl hb50) rfl rfl rfl (by kernel_rfl) (by kernel_rfl) (by kernel_rfl) (by kernel_rfl) H52 (fun wx H => x_not (b := (decide (x42.peer ∈ O))) rfl rfl) ?_
                    refine a_take (v := .bool (!((decide (x42.peer ∈ O))))) 8 rfl (wt0 rfl) rfl rfl rfl (by kernel_rfl) (by kernel_rfl) (by kernel_rfl) (by kernel_rfl) H52 (fun wx H => x_pick_t rfl rfl hb50 rfl) ?_
                    refine a_take (v := .bool (!((decide (x42.peer ∈ O))))) 9 rfl (wt0 rfl) rfl rfl rfl (by kernel_rfl) (by kernel_rfl) (by kernel_rfl) (by kernel_rfl) H52 (fun wx H => x_move rfl rfl) ?_
                    rcases Bool.eq_false_or_eq_true ((decide (x42.peer ∈ O))) with hb53 | hb53
                    · skip
                      refine a_not 10 rfl (wn1 rfl rfl rfl rfl (neg_of hb53)) rfl rfl rfl (by kernel_rfl) (by kernel_rfl) (by kernel_rfl) (by kernel_rfl) H52 ?_
                      refine a_not 11 rfl (wn1 rfl rfl rfl rfl (neg_of hb53)) rfl rfl rfl (by kernel_rfl) (by kernel_rfl) (by kernel_rfl) (by kernel_rfl) H52 ?_
                      refine a_not 12 rfl (wn1 rfl rfl rfl rfl (neg_of hb53)) rfl rfl rfl (by kernel_rfl) (by kernel_rfl) (by kernel_rfl) (by kernel_rfl) H52 ?_
                      refine a_not 13 rfl (wn2 rfl rfl rfl rfl) rfl rfl rfl (by kernel_rfl) (by kernel_rfl) (by kernel_rfl) (by kernel_rfl) H52 ?_
                      refine a_not 14 rfl (wn2 rfl rfl rfl rfl) rfl rfl rfl (by kernel_rfl) (by kernel_rfl) (by kernel_rfl) (by kernel_rfl) H52 ?_
                      refine a_not 15 rfl (wn2 rfl rfl rfl rfl) rfl rfl rfl (by kernel_rfl) (by kernel_rfl) (by kernel_rfl) (by kernel_rfl) H52 ?_
                      refine a_not 16 rfl (wn2 rfl rfl rfl rfl) rfl rfl rfl (by kernel_rfl) (by kernel_rfl) (by kernel_rfl) (by kernel_rfl) H52 ?_
                      refine a_not 17 rfl (wn2 rfl rfl rfl rfl) rfl rfl rfl (by kernel_rfl) (by kernel_rfl) (by kernel_rfl) (by kernel_rfl) H52 ?_
                      refine a_not 18 rfl (wn2 rfl rfl rfl rfl) rfl rfl rfl (by kernel_rfl) (by kernel_rfl) (by kernel_rfl) (by kernel_rfl) H52 ?_
                      refine a_one (i := 19) (by kernel_rfl) rfl ?_
                      refine s_not (wn2 rfl rfl rfl rfl) rfl rfl ?_
                      refine a_k H52 ?_
                      refine a_not 20 rfl (wn1 rfl rfl rfl rfl (neg_of hb53)) rfl rfl rfl (by kernel_rfl) (by kernel_rfl) (by kernel_rfl) (by kernel_rfl) H52 ?_
                      refine a_take (v := .bool false) 21 rfl (wt0 rfl) rfl rfl rfl (by kernel_rfl) (by kernel_rfl) (by kernel_rfl) (by kernel_rfl) H52 (fun wx H => x_pick_f rfl rfl (neg_of hb53) rfl) ?_
                      refine a_done (by kernel_rfl) ?_
                      refine g_then ?_
                      refine g_cond_f rfl rfl ?_
                      refine g_skip ?_
                      refine g_in ?_
                      refine g_then ?_
                      refine g_weak [(0, .slice p n c), (3, .int .i64 turn), (11, .slice po O.length co), (15, .int .i64 at8), (86, .slice p n c), (87, .int .i64 ((n : Int))), (88, .int .i64 ((i8 : Int))), (96, .slice po O.length co), (97, .pointer (some ⟨g43, 0, none⟩)), (98, .int .i64 (x42.peer)), (99, .bool ((decide (x42.peer ∈ O)))), (100, .bool (!((decide (x42.peer ∈ O))))), (103, undef), (104, undef), (105, undef), (106, undef), (107, undef), (108, undef), (109, undef), (110, undef), (111, undef), (112, undef), (113, undef)] ⟨rfl, rfl, rfl, rfl, rfl, rfl, rfl, rfl, rfl, rfl, rfl, rfl, rfl, rfl, rfl, rfl, rfl, rfl, rfl, rfl, rfl, rfl, rfl, trivial⟩ ?_
                      refine g_region ?_
                      refine l_of (s_val (v := .int .i64 (((i8 + 1 : Nat) : Int))) (wt0 rfl) rfl rfl (x_bin rfl rfl rfl (b_add (by rw [w64 (by omega)]; omega))) ?_)
                      refine l_of (s_val (v := .int .i64 (((i8 + 1 : Nat) : Int))) (wt0 rfl) rfl rfl (x_move rfl rfl) ?_)
                      refine g_nil ?_
                      refine g_then ?_
                      refine g_round (i := (i8, at8)) ((i8 + 1), at8) ?_ ?_ ?_
                      · exact ⟨rfl, rfl, rfl, rfl, rfl, rfl, rfl, trivial⟩
                      · exact ⟨by omega, (hat.skip hx42 (by unfold q2 toRv; simp [hb6, hb38, hb50, hb53])), (H52.takes [1, 2] (by decide))⟩
                      · (try dsimp only); omega
                    · skip
                      refine a_take (v := .int .i64 at8) 10 rfl (wt1 rfl rfl rfl rfl (neg_of hb53)) rfl rfl rfl (by kernel_rfl) (by kernel_rfl) (by kernel_rfl) (by kernel_rfl) H52 (fun wx H => x_move rfl rfl) ?_
                      refine a_take (v := .bool (decide ((at8 : Int) < 0))) 11 rfl (wt1 rfl rfl rfl rfl (neg_of hb53)) rfl rfl rfl (by kernel_rfl) (by kernel_rfl) (by kernel_rfl) (by kernel_rfl) H52 (fun wx H => x_bin rfl rfl rfl b_lss) ?_
                      refine a_take (v := .bool (decide ((at8 : Int) < 0))) 12 rfl (wt1 rfl rfl rfl rfl (neg_of hb53)) rfl rfl rfl (by kernel_rfl) (by kernel_rfl) (by kernel_rfl) (by kernel_rfl) H52 (fun wx H => x_move rfl rfl) ?_
                      by_cases hb54 : (at8 : Int) < 0
                      · skip
                        refine a_not 13 rfl (wn1 rfl rfl rfl rfl (decide_eq_true hb54)) rfl rfl rfl (by kernel_rfl) (by kernel_rfl) (by kernel_rfl) (by kernel_rfl) H52 ?_
                        refine a_not 14 rfl (wn1 rfl rfl rfl rfl (decide_eq_true hb54)) rfl rfl rfl (by kernel_rfl) (by kernel_rfl) (by kernel_rfl) (by kernel_rfl) H52 ?_
                        refine a_not 15 rfl (wn1 rfl rfl rfl rfl (decide_eq_true hb54)) rfl rfl rfl (by kernel_rfl) (by kernel_rfl) (by kernel_rfl) (by kernel_rfl) H52 ?_
                        refine a_not 16 rfl (wn1 rfl rfl rfl rfl (decide_eq_true hb54)) rfl rfl rfl (by kernel_rfl) (by kernel_rfl) (by kernel_rfl) (by kernel_rfl) H52 ?_
                        refine a_not 17 rfl (wn1 rfl rfl rfl rfl (decide_eq_true hb54)) rfl rfl rfl (by kernel_rfl) (by kernel_rfl) (by kernel_rfl) (by kernel_rfl) H52 ?_
                        refine a_not 18 rfl (wn1 rfl rfl rfl rfl (decide_eq_true hb54)) rfl rfl rfl (by kernel_rfl) (by kernel_rfl) (by kernel_rfl) (by kernel_rfl) H52 ?_
                        refine a_one (i := 19) (by kernel_rfl) rfl ?_
                        refine s_not (wn1 rfl rfl rfl rfl (decide_eq_true hb54)) rfl rfl ?_
                        refine a_k H52 ?_
                        refine a_take (v := .bool true) 20 rfl (wt1 rfl rfl rfl rfl (neg_of hb53)) rfl rfl rfl (by kernel_rfl) (by kernel_rfl) (by kernel_rfl) (by kernel_rfl) H52 (fun wx H => x_pick_t rfl rfl (decide_eq_true hb54) rfl) ?_
                        refine a_take (v := .bool true) 21 rfl (wt0 rfl) rfl rfl rfl (by kernel_rfl) (by kernel_rfl) (by kernel_rfl) (by kernel_rfl) H52 (fun wx H => x_pick_t rfl rfl (neg_of hb53) rfl) ?_
                        refine a_done (by kernel_rfl) ?_
                        refine g_then ?_
                        refine g_cond_t rfl rfl ?_
                        refine g_region ?_
                        refine l_of (s_val (v := .int .i64 ((i8 : Int))) (wt0 rfl) rfl rfl (x_move rfl rfl) ?_)
                        refine l_of (s_val (v := .int .i64 ((i8 : Int))) (wt0 rfl) rfl rfl (x_assign rfl rfl) ?_)
                        refine g_nil ?_
                        refine g_in ?_
                        refine g_then ?_
                        refine g_weak [(0, .slice p n c), (3, .int .i64 turn), (11, .slice po O.length co), (15, .int .i64 ((i8 : Int))), (86, .slice p n c), (87, .int .i64 ((n : Int))), (88, .int .i64 ((i8 : Int))), (96, .slice po O.length co), (97, .pointer (some ⟨g43, 0, none⟩)), (98, .int .i64 (x42.peer)), (99, .bool ((decide (x42.peer ∈ O)))), (100, .bool (!((decide (x42.peer ∈ O))))), (103, .int .i64 at8), (104, .bool (decide ((at8 : Int) < 0))), (105, .bool (decide ((at8 : Int) < 0))), (106, undef), (107, undef), (108, undef), (109, undef), (110, undef), (111, undef), (112, undef), (113, .bool true)] ⟨rfl, rfl, rfl, rfl, rfl, rfl, rfl, rfl, rfl, rfl, rfl, rfl, rfl, rfl, rfl, rfl, rfl, rfl, rfl, rfl, rfl, rfl, rfl, trivial⟩ ?_
                        refine g_region ?_
                        refine l_of (s_val (v := .int .i64 (((i8 + 1 : Nat) : Int))) (wt0 rfl) rfl rfl (x_bin rfl rfl rfl (b_add (by rw [w64 (by omega)]; omega))) ?_)
                        refine l_of (s_val (v := .int .i64 (((i8 + 1 : Nat) : Int))) (wt0 rfl) rfl rfl (x_move rfl rfl) ?_)
                        refine g_nil ?_
                        refine g_then ?_
                        refine g_round (i := (i8, at8)) ((i8 + 1), (i8 : Int)) ?_ ?_ ?_
                        · exact ⟨rfl, rfl, rfl, rfl, rfl, rfl, rfl, trivial⟩
                        · exact ⟨by omega, (hat.first ((cR_wk turn).comap (toRv sd)) hb54 hx42 (by unfold q2 toRv; simp [hb6, hb38, hb50, hb53, hb54])), (H52.takes [1, 2] (by decide))⟩
                        · (try dsimp only); omega
                      · skip
                        obtain ⟨j3, z3, rfl, hj3, hz3, hPz3, hbz3⟩ := hat.at hb54
                        have hjl3 := (List.getElem?_eq_some_iff.1 hz3).1
                        refine a_take (v := .int .i64 turn) 13 rfl (wt1 rfl rfl rfl rfl (decide_eq_false hb54)) rfl rfl rfl (by kernel_rfl) (by kernel_rfl) (by kernel_rfl) (by kernel_rfl) H52 (fun wx H => x_move rfl rfl) ?_
                        refine a_take (v := .agg #[.int .i64 (x42.peer), .bool x42.wants, .int .i64 (x42.gave), .int .i64 (x42.got), .bool x42.snb, .int .i64 (x42.lt)]) 14 rfl (wt1 rfl rfl rfl rfl (decide_eq_false hb54)) rfl rfl rfl (by kernel_rfl) (by kernel_rfl) (by kernel_rfl) (by kernel_rfl) H52 (fun wx H => x_loadA H 0 rfl rfl Try.underlying57 rfl sz57 rfl rfl rfl) ?_
                        refine a_take (v := .slice p n c) 15 rfl (wt1 rfl rfl rfl rfl (decide_eq_false hb54)) rfl rfl rfl (by kernel_rfl) (by kernel_rfl) (by kernel_rfl) (by kernel_rfl) H52 (fun wx H => x_move rfl rfl) ?_
                        refine a_take (v := .int .i64 ((j3 : Int))) 16 rfl (wt1 rfl rfl rfl rfl (decide_eq_false hb54)) rfl rfl rfl (by kernel_rfl) (by kernel_rfl) (by kernel_rfl) (by kernel_rfl) H52 (fun wx H => x_move rfl rfl) ?_
                        refine a_take (v := .pointer ((p).map fun q => q.add (j3 * 6))) 17 rfl (wt1 rfl rfl rfl rfl (decide_eq_false hb54)) rfl rfl rfl (by kernel_rfl) (by kernel_rfl) (by kernel_rfl) (by kernel_rfl) H52 (fun wx H => x_idxP j3 ((H52.exReads (k := 2) rfl hr (fun _ _ _ h => h)).some (by omega)) rfl rfl rfl Try.underlying33 sz57 (by omega)) ?_
                        refine a_take (v := .agg #[.int .i64 (z3.peer), .bool z3.wants, .int .i64 (z3.gave), .int .i64 (z3.got), .bool z3.snb, .int .i64 (z3.lt)]) 18 rfl (wt1 rfl rfl rfl rfl (decide_eq_false hb54)) rfl rfl rfl (by kernel_rfl) (by kernel_rfl) (by kernel_rfl) (by kernel_rfl) H52 (fun wx H => x_loadRA (vs := rtL z3) j3 (H.exReads (k := 2) rfl hr (fun _ _ _ h => h)) (by omega) rfl rfl Try.underlying57 rfl sz57 (by rfl) (rtE.flAt hz3)) ?_
                        refine a_one (i := 19) (by kernel_rfl) rfl ?_
                        refine s_call (wt1 rfl rfl rfl rfl (decide_eq_false hb54)) (x_call' rfl rfl cl48) (sooner_r turn sd x42 z3 _) ?_
                        rintro _ wq55 ⟨rfl, H56⟩
                        replace H56 : S wq55 [Ob g43 (.cells #[.int .i64 (x42.peer), .bool x42.wants, .int .i64 (x42.gave), .int .i64 (x42.got), .bool x42.snb, .int .i64 (x42.lt)] 57 (0, 0)), Rw 3 1 po O.length co (fl intL O), Old w no] := H52.absorb (new := []) H56
                        refine b_ret rfl rfl ?_
                        refine a_k H56 ?_
                        refine a_take (v := .bool ((decide (cR turn (toRv sd x42) (toRv sd z3) < 0)))) 20 rfl (wt1 rfl rfl rfl rfl (neg_of hb53)) rfl rfl rfl (by kernel_rfl) (by kernel_rfl) (by kernel_rfl) (by kernel_rfl) H56 (fun wx H => x_pick_f rfl rfl (decide_eq_false hb54) rfl) ?_
                        refine a_take (v := .bool ((decide (cR turn (toRv sd x42) (toRv sd z3) < 0)))) 21 rfl (wt0 rfl) rfl rfl rfl (by kernel_rfl) (by kernel_rfl) (by kernel_rfl) (by kernel_rfl) H56 (fun wx H => x_pick_t rfl rfl (neg_of hb53) rfl) ?_
                        refine a_done (by kernel_rfl) ?_
                        refine g_then ?_
                        rcases Bool.eq_false_or_eq_true ((decide (cR turn (toRv sd x42) (toRv sd z3) < 0))) with hb57 | hb57
                        · skip
                          refine g_cond_t rfl hb57 ?_
                          refine g_region ?_
                          refine l_of (s_val (v := .int .i64 ((i8 : Int))) (wt0 rfl) rfl rfl (x_move rfl rfl) ?_)
                          refine l_of (s_val (v := .int .i64 ((i8 : Int))) (wt0 rfl) rfl rfl (x_assign rfl rfl) ?_)
                          refine g_nil ?_
                          refine g_in ?_
                          refine g_then ?_
                          refine g_weak [(0, .slice p n c), (3, .int .i64 turn), (11, .slice po O.length co), (15, .int .i64 ((i8 : Int))), (86, .slice p n c), (87, .int .i64 ((n : Int))), (88, .int .i64 ((i8 : Int))), (96, .slice po O.length co), (97, .pointer (some ⟨g43, 0, none⟩)), (98, .int .i64 (x42.peer)), (99, .bool ((decide (x42.peer ∈ O)))), (100, .bool (!((decide (x42.peer ∈ O))))), (103, .int .i64 ((j3 : Int))), (104, .bool (decide (((j3 : Int) : Int) < 0))), (105, .bool (decide (((j3 : Int) : Int) < 0))), (106, .int .i64 turn), (107, .agg #[.int .i64 (x42.peer), .bool x42.wants, .int .i64 (x42.gave), .int .i64 (x42.got), .bool x42.snb, .int .i64 (x42.lt)]), (108, .slice p n c), (109, .int .i64 ((j3 : Int))), (110, .pointer ((p).map fun q => q.add (j3 * 6))), (111, .agg #[.int .i64 (z3.peer), .bool z3.wants, .int .i64 (z3.gave), .int .i64 (z3.got), .bool z3.snb, .int .i64 (z3.lt)]), (112, .bool ((decide (cR turn (toRv sd x42) (toRv sd z3) < 0)))), (113, .bool ((decide (cR turn (toRv sd x42) (toRv sd z3) < 0))))] ⟨rfl, rfl, rfl, rfl, rfl, rfl, rfl, rfl, rfl, rfl, rfl, rfl, rfl, rfl, rfl, rfl, rfl, rfl, rfl, rfl, rfl, rfl, rfl, trivial⟩ ?_
                          refine g_region ?_
                          refine l_of (s_val (v := .int .i64 (((i8 + 1 : Nat) : Int))) (wt0 rfl) rfl rfl (x_bin rfl rfl rfl (b_add (by rw [w64 (by omega)]; omega))) ?_)
                          refine l_of (s_val (v := .int .i64 (((i8 + 1 : Nat) : Int))) (wt0 rfl) rfl rfl (x_move rfl rfl) ?_)
                          refine g_nil ?_
                          refine g_then ?_
                          refine g_round (i := (i8, (j3 : Int))) ((i8 + 1), (i8 : Int)) ?_ ?_ ?_
                          · exact ⟨rfl, rfl, rfl, rfl, rfl, rfl, rfl, trivial⟩
                          · exact ⟨by omega, (AtB.better ((cR_wk turn).comap (toRv sd)) hbz3 hx42 (by unfold q2 toRv; simp [hb6, hb38, hb50, hb53, hb54, hb57]) (of_decide_eq_true hb57)), (H56.takes [1, 2] (by decide))⟩
                          · (try dsimp only); omega
                        · skip
                          refine g_cond_f rfl hb57 ?_
                          refine g_skip ?_
                          refine g_in ?_
                          refine g_then ?_
                          refine g_weak [(0, .slice p n c), (3, .int .i64 turn), (11, .slice po O.length co), (15, .int .i64 ((j3 : Int))), (86, .slice p n c), (87, .int .i64 ((n : Int))), (88, .int .i64 ((i8 : Int))), (96, .slice po O.length co), (97, .pointer (some ⟨g43, 0, none⟩)), (98, .int .i64 (x42.peer)), (99, .bool ((decide (x42.peer ∈ O)))), (100, .bool (!((decide (x42.peer ∈ O))))), (103, .int .i64 ((j3 : Int))), (104, .bool (decide (((j3 : Int) : Int) < 0))), (105, .bool (decide (((j3 : Int) : Int) < 0))), (106, .int .i64 turn), (107, .agg #[.int .i64 (x42.peer), .bool x42.wants, .int .i64 (x42.gave), .int .i64 (x42.got), .bool x42.snb, .int .i64 (x42.lt)]), (108, .slice p n c), (109, .int .i64 ((j3 : Int))), (110, .pointer ((p).map fun q => q.add (j3 * 6))), (111, .agg #[.int .i64 (z3.peer), .bool z3.wants, .int .i64 (z3.gave), .int .i64 (z3.got), .bool z3.snb, .int .i64 (z3.lt)]), (112, .bool ((decide (cR turn (toRv sd x42) (toRv sd z3) < 0)))), (113, .bool ((decide (cR turn (toRv sd x42) (toRv sd z3) < 0))))] ⟨rfl, rfl, rfl, rfl, rfl, rfl, rfl, rfl, rfl, rfl, rfl, rfl, rfl, rfl, rfl, rfl, rfl, rfl, rfl, rfl, rfl, rfl, rfl, trivial⟩ ?_
                          refine g_region ?_
                          refine l_of (s_val (v := .int .i64 (((i8 + 1 : Nat) : Int))) (wt0 rfl) rfl rfl (x_bin rfl rfl rfl (b_add (by rw [w64 (by omega)]; omega))) ?_)
                          refine l_of (s_val (v := .int .i64 (((i8 + 1 : Nat) : Int))) (wt0 rfl) rfl rfl (x_move rfl rfl) ?_)
                          refine g_nil ?_
                          refine g_then ?_
                          refine g_round (i := (i8, (j3 : Int))) ((i8 + 1), (j3 : Int)) ?_ ?_ ?_
                          · exact ⟨rfl, rfl, rfl, rfl, rfl, rfl, rfl, trivial⟩
                          · exact ⟨by omega, (AtB.stay hj3 hz3 hPz3 hbz3 hx42 (of_decide_eq_false hb57)), (H56.takes [1, 2] (by decide))⟩
                          · (try dsimp only); omega
                  · skip
                    refine a_not 3 rfl (wn1 rfl rfl rfl rfl hb50) rfl rfl rfl (by kernel_rfl) (by kernel_rfl) (by kernel_rfl) (by kernel_rfl) H49 ?_
                    refine a_not 4 rfl (wn1 rfl rfl rfl rfl hb50) rfl rfl rfl (by kernel_rfl) (by kernel_rfl) (by kernel_rfl) (by kernel_rfl) H49 ?_
                    refine a_not 5 rfl (wn1 rfl rfl rfl rfl hb50) rfl rfl rfl (by kernel_rfl) (by kernel_rfl) (by kernel_rfl) (by kernel_rfl) H49 ?_
                    refine a_one (i := 6) (by kernel_rfl) rfl ?_
                    refine s_not (wn1 rfl rfl rfl rfl hb50) rfl rfl ?_
                    refine a_k H49 ?_
                    refine a_not 7 rfl (wn1 rfl rfl rfl rfl hb50) rfl rfl rfl (by kernel_rfl) (by kernel_rfl) (by kernel_rfl) (by kernel_rfl) H49 ?_
                    refine a_take (v := .bool false) 8 rfl (wt0 rfl) rfl rfl rfl (by kernel_rfl) (by kernel_rfl) (by kernel_rfl) (by kernel_rfl) H49 (fun wx H => x_pick_f rfl rfl hb50 rfl) ?_
                    refine a_take (v := .bool false) 9 rfl (wt0 rfl) rfl rfl rfl (by kernel_rfl) (by kernel_rfl) (by kernel_rfl) (by kernel_rfl) H49 (fun wx H => x_move rfl rfl) ?_
                    refine a_not 10 rfl (wn1 rfl rfl rfl rfl rfl) rfl rfl rfl (by kernel_rfl) (by kernel_rfl) (by kernel_rfl) (by kernel_rfl) H49 ?_
                    refine a_not 11 rfl (wn1 rfl rfl rfl rfl rfl) rfl rfl rfl (by kernel_rfl) (by kernel_rfl) (by kernel_rfl) (by kernel_rfl) H49 ?_
                    refine a_not 12 rfl (wn1 rfl rfl rfl rfl rfl) rfl rfl rfl (by kernel_rfl) (by kernel_rfl) (by kernel_rfl) (by kernel_rfl) H49 ?_
                    refine a_not 13 rfl (wn2 rfl rfl rfl rfl) rfl rfl rfl (by kernel_rfl) (by kernel_rfl) (by kernel_rfl) (by kernel_rfl) H49 ?_
                    refine a_not 14 rfl (wn2 rfl rfl rfl rfl) rfl rfl rfl (by kernel_rfl) (by kernel_rfl) (by kernel_rfl) (by kernel_rfl) H49 ?_
                    refine a_not 15 rfl (wn2 rfl rfl rfl rfl) rfl rfl rfl (by kernel_rfl) (by kernel_rfl) (by kernel_rfl) (by kernel_rfl) H49 ?_
                    refine a_not 16 rfl (wn2 rfl rfl rfl rfl) rfl rfl rfl (by kernel_rfl) (by kernel_rfl) (by kernel_rfl) (by kernel_rfl) H49 ?_
                    refine a_not 17 rfl (wn2 rfl rfl rfl rfl) rfl rfl rfl (by kernel_rfl) (by kernel_rfl) (by kernel_rfl) (by kernel_rfl) H49 ?_
                    refine a_not 18 rfl (wn2 rfl rfl rfl rfl) rfl rfl rfl (by kernel_rfl) (by kernel_rfl) (by kernel_rfl) (by kernel_rfl) H49 ?_
                    refine a_one (i := 19) (by kernel_rfl) rfl ?_
                    refine s_not (wn2 rfl rfl rfl rfl) rfl rfl ?_
                    refine a_k H49 ?_
                    refine a_not 20 rfl (wn1 rfl rfl rfl rfl rfl) rfl rfl rfl (by kernel_rfl) (by kernel_rfl) (by kernel_rfl) (by kernel_rfl) H49 ?_
                    refine a_take (v := .bool false) 21 rfl (wt0 rfl) rfl rfl rfl (by kernel_rfl) (by kernel_rfl) (by kernel_rfl) (by kernel_rfl) H49 (fun wx H => x_pick_f rfl rfl rfl rfl) ?_
                    refine a_done (by kernel_rfl) ?_
                    refine g_then ?_
                    refine g_cond_f rfl rfl ?_
                    refine g_skip ?_
                    refine g_in ?_
                    refine g_then ?_
                    refine g_weak [(0, .slice p n c), (3, .int .i64 turn), (11, .slice po O.length co), (15, .int .i64 at8), (86, .slice p n c), (87, .int .i64 ((n : Int))), (88, .int .i64 ((i8 : Int))), (96, undef), (97, undef), (98, undef), (99, undef), (100, undef), (103, undef), (104, undef), (105, undef), (106, undef), (107, undef), (108, undef), (109, undef), (110, undef), (111, undef), (112, undef), (113, undef)] ⟨rfl, rfl, rfl, rfl, rfl, rfl, rfl, rfl, rfl, rfl, rfl, rfl, rfl, rfl, rfl, rfl, rfl, rfl, rfl, rfl, rfl, rfl, rfl, trivial⟩ ?_
                    refine g_region ?_
                    refine l_of (s_val (v := .int .i64 (((i8 + 1 : Nat) : Int))) (wt0 rfl) rfl rfl (x_bin rfl rfl rfl (b_add (by rw [w64 (by omega)]; omega))) ?_)
                    refine l_of (s_val (v := .int .i64 (((i8 + 1 : Nat) : Int))) (wt0 rfl) rfl rfl (x_move rfl rfl) ?_)
                    refine g_nil ?_
                    refine g_then ?_
                    refine g_round (i := (i8, at8)) ((i8 + 1), at8) ?_ ?_ ?_
                    · exact ⟨rfl, rfl, rfl, rfl, rfl, rfl, rfl, trivial⟩
                    · exact ⟨by omega, (hat.skip hx42 (by unfold q2 toRv; simp [hb6, hb38, hb50])), (H49.takes [1, 2] (by decide))⟩
                    · (try dsimp only); omega
                · skip
                  refine g_cond_f rfl (decide_eq_false hb41) ?_
                  refine g_exit ?_
                  refine g_then_exit ?_
                  refine g_then_exit ?_
                  refine g_in_hit ?_
                  refine g_then ?_
                  refine g_seq ?_
                  refine g_seq ?_
                  refine g_region ?_
                  refine l_of (s_val (v := .int .i64 at8) (wt0 rfl) rfl rfl (x_move rfl rfl) ?_)
                  refine l_of (s_val (v := .bool (decide ((0 : Int) ≤ at8))) (wt0 rfl) rfl rfl (x_bin rfl rfl rfl b_geq) ?_)
                  refine g_nil ?_
                  refine g_then ?_
                  by_cases hb58 : (0 : Int) ≤ at8
                  · skip
                    obtain ⟨j4, z4, rfl, hj4, hz4, hPz4, hbz4⟩ := hat.at (by omega)
                    have hjl4 := (List.getElem?_eq_some_iff.1 hz4).1
                    refine g_cond_t rfl (decide_eq_true hb58) ?_
                    refine g_region ?_
                    refine l_of (s_val (v := .slice po O.length co) (wt0 rfl) rfl rfl (x_move rfl rfl) ?_)
                    refine l_of (s_val (v := .slice p n c) (wt0 rfl) rfl rfl (x_move rfl rfl) ?_)
                    refine l_of (s_val (v := .int .i64 ((j4 : Int))) (wt0 rfl) rfl rfl (x_move rfl rfl) ?_)
                    refine l_of (s_val (v := .pointer ((p).map fun q => q.add (j4 * 6))) (wt0 rfl) rfl rfl (x_idxR j4 (H40.exReads (k := 1) rfl hr (fun _ _ _ h => h)) rfl rfl rfl Try.underlying33 sz57 (by omega)) ?_)
                    refine l_of (s_val (v := .pointer ((p).map fun q => q.add (j4 * 6 + 0))) (wt0 rfl) rfl rfl (ex_cast (x_fieldAddrG (m := j4 * 6) ((H40.exReads (k := 1) rfl hr (fun _ _ _ h => h)).some (by omega)) rfl rfl fo57_0) rfl) ?_)
                    refine l_of (s_val (v := .int .i64 (z4.peer)) (wt0 rfl) rfl rfl (x_loadF1 (i := 0) (j := j4) rtE (H40.exReads (k := 1) rfl hr (fun _ _ _ h => h)) hz4 rfl rfl Try.underlying3 rfl rfl) ?_)
                    refine l_of (s_buildSlice H40 (wt0 rfl) rfl rfl rfl (vs := [.int .i64 (z4.peer)]) rfl Try.underlying23 sz3 ze3 rfl rfl (cells := #[.int .i64 (z4.peer)]) (by kernel_rfl) ?_)
                    intro g59 wq60 H61
                    have hln66a := (H61.rwReads (k := 1) rfl).lenL intE
                    have hln66 : (O ++ [z4.peer]).length = O.length + 1 := by simp only [List.length_append, List.length_cons, List.length_nil] <;> omega
                    refine l_of (s_appBn (m := 1) (l := O) (l2 := [z4.peer]) intE H61 1 (j0 := 0) rfl rfl ⟨rfl, Nat.le_refl _⟩ (wt0 rfl) rfl rfl rfl rfl rfl rfl Try.underlying23 inf3 rfl (by decide) (by omega) ?_)
                    intro p62 c63 wq64 H65
                    replace H65 : S wq64 [Ob g59 (.cells #[.int .i64 (z4.peer)] 3 (0, 0)), Rw 3 1 p62 ((O ++ [z4.peer]).length) c63 (fl intL (O ++ [z4.peer])), Old w no] := H65
                    refine l_of (s_val (v := .slice p62 ((O ++ [z4.peer]).length) c63) (wt0 rfl) rfl rfl (x_assign rfl rfl) ?_)
                    refine g_nil ?_
                    refine g_then ?_
                    refine g_weak [(11, .slice p62 ((O ++ [z4.peer]).length) c63)] ⟨rfl, trivial⟩ ?_
                    refine g_seq ?_
                    refine g_region ?_
                    refine l_of (s_val (v := .slice p62 ((O ++ [z4.peer]).length) c63) (wt0 rfl) rfl rfl (x_move rfl rfl) ?_)
                    refine l_of (s_call (wt0 rfl) (x_call' rfl rfl cl31) (asc_r (O ++ [z4.peer]) p62 ((O ++ [z4.peer]).length) c63 (by omega) _ (H65.takes [1] (by decide))) ?_)
                    rintro _ wq67 ⟨rfl, H68⟩
                    replace H68 : S wq67 [Rw 3 1 p62 ((O ++ [z4.peer]).length) c63 (fl intL (sortI (O ++ [z4.peer]))), Ob g59 (.cells #[.int .i64 (z4.peer)] 3 (0, 0)), Old w no] := H65.absorbI (new := [Rw 3 1 p62 ((O ++ [z4.peer]).length) c63 (fl intL (sortI (O ++ [z4.peer])))]) [1] H68
                    refine b_ret rfl rfl ?_
                    refine l_of (s_val (v := .slice p62 ((O ++ [z4.peer]).length) c63) (wt0 rfl) rfl rfl (x_assign rfl rfl) ?_)
                    refine l_of (s_val (v := .int .i64 0) (wt0 rfl) rfl rfl (x_assign rfl rfl) ?_)
                    refine g_nil ?_
                    refine g_then ?_
                    refine g_ret ?_
                    refine fin_ret [.tmp 8, .tmp 9] [.slice p62 ((O ++ [z4.peer]).length) c63, .int .i64 0] rfl ⟨rfl, rfl, trivial⟩ ?_
                    have hv : rtErr l slots turn = 0 := rt_0 hnb hnd (by omega)
                    rw [List.take_of_length_le (by omega)] at hbz4
                    rw [hF] at hPz4 hbz4
                    have hR : restV l slots sd turn = [toRv sd z4] := rest_one (by omega) hnd (List.mem_of_getElem? hz4) hPz4 hbz4
                    have he : sortI (O ++ [z4.peer]) = choL l slots sd turn := by unfold choL; rw [List.map_append, hR, ← hF]; rfl
                    have hel : (choL l slots sd turn).length = (O ++ [z4.peer]).length := by rw [← he, sortI_len]
                    rw [cho_z hv, hv, hel, ← he]
                    exact ⟨_, _, rfl, H68.takes [0, 2] (by decide)⟩
                  · skip
                    refine g_cond_f rfl (decide_eq_false hb58) ?_
                    refine g_skip ?_
                    refine g_then ?_
                    refine g_seq ?_
                    refine g_region ?_
                    refine l_of (s_val (v := .slice po O.length co) (wt0 rfl) rfl rfl (x_move rfl rfl) ?_)
                    refine l_of (s_call (wt0 rfl) (x_call' rfl rfl cl31) (asc_r O po O.length co (by omega) _ (H40.takes [0] (by decide))) ?_)
                    rintro _ wq69 ⟨rfl, H70⟩
                    replace H70 : S wq69 [Rw 3 1 po O.length co (fl intL (sortI O)), Old w no] := H40.absorbI (new := [Rw 3 1 po O.length co (fl intL (sortI O))]) [0] H70
                    refine b_ret rfl rfl ?_
                    refine l_of (s_val (v := .slice po O.length co) (wt0 rfl) rfl rfl (x_assign rfl rfl) ?_)
                    refine l_of (s_val (v := .int .i64 0) (wt0 rfl) rfl rfl (x_assign rfl rfl) ?_)
                    refine g_nil ?_
                    refine g_then ?_
                    refine g_weak [(8, .slice po O.length co), (9, .int .i64 0)] ⟨rfl, rfl, trivial⟩ ?_
                    refine g_ret ?_
                    refine fin_ret [.tmp 8, .tmp 9] [.slice po O.length co, .int .i64 0] rfl ⟨rfl, rfl, trivial⟩ ?_
                    have hv : rtErr l slots turn = 0 := rt_0 hnb hnd (by omega)
                    have hnn := hat.none (by omega)
                    rw [List.take_of_length_le (by omega)] at hnn
                    rw [hF] at hnn
                    have hR : restV l slots sd turn = [] := rest_none hnd hnn
                    have he : sortI O = choL l slots sd turn := by unfold choL; rw [hR, List.append_nil, ← hF]
                    have hel : (choL l slots sd turn).length = O.length := by rw [← he, sortI_len]
                    rw [cho_z hv, hv, hel, ← he]
                    exact ⟨_, _, rfl, H70.takes [0, 1] (by decide)⟩
              · skip
                obtain ⟨j5, z5, rfl, hj5, hz5, hPz5, hbz5⟩ := hat.at hb38
                have hjl5 := (List.getElem?_eq_some_iff.1 hz5).1
                refine g_cond_f rfl (decide_eq_false hb38) ?_
                refine g_skip ?_
                refine g_then ?_
                refine g_region ?_
                refine l_of (s_val (v := .slice po O.length co) (wt0 rfl) rfl rfl (x_move rfl rfl) ?_)
                refine l_of (s_val (v := .slice p n c) (wt0 rfl) rfl rfl (x_move rfl rfl) ?_)
                refine l_of (s_val (v := .int .i64 ((j5 : Int))) (wt0 rfl) rfl rfl (x_move rfl rfl) ?_)
                refine l_of (s_val (v := .pointer ((p).map fun q => q.add (j5 * 6))) (wt0 rfl) rfl rfl (x_idxR j5 (H11.exReads (k := 1) rfl hr (fun _ _ _ h => h)) rfl rfl rfl Try.underlying33 sz57 (by omega)) ?_)
                refine l_of (s_val (v := .pointer ((p).map fun q => q.add (j5 * 6 + 0))) (wt0 rfl) rfl rfl (ex_cast (x_fieldAddrG (m := j5 * 6) ((H11.exReads (k := 1) rfl hr (fun _ _ _ h => h)).some (by omega)) rfl rfl fo57_0) rfl) ?_)
                refine l_of (s_val (v := .int .i64 (z5.peer)) (wt0 rfl) rfl rfl (x_loadF1 (i := 0) (j := j5) rtE (H11.exReads (k := 1) rfl hr (fun _ _ _ h => h)) hz5 rfl rfl Try.underlying3 rfl rfl) ?_)
                refine l_of (s_buildSlice H11 (wt0 rfl) rfl rfl rfl (vs := [.int .i64 (z5.peer)]) rfl Try.underlying23 sz3 ze3 rfl rfl (cells := #[.int .i64 (z5.peer)]) (by kernel_rfl) ?_)
                intro g71 wq72 H73
                rw [List.take_of_length_le (by omega)] at hbz5
                have hpk := pick_is (by omega) hnd cF_wk cF_z hO (List.mem_of_getElem? hz5) hPz5 hbz5
                have hln78a := (H73.rwReads (k := 1) rfl).lenL intE
                have hln78 : (O ++ [z5.peer]).length = O.length + 1 := by simp only [List.length_append, List.length_cons, List.length_nil] <;> omega
                refine l_of (s_appBn (m := 1) (l := O) (l2 := [z5.peer]) intE H73 1 (j0 := 0) rfl rfl ⟨rfl, Nat.le_refl _⟩ (wt0 rfl) rfl rfl rfl rfl rfl rfl Try.underlying23 inf3 rfl (by decide) (by omega) ?_)
                intro p74 c75 wq76 H77
                replace H77 : S wq76 [Ob g71 (.cells #[.int .i64 (z5.peer)] 3 (0, 0)), Rw 3 1 p74 ((O ++ [z5.peer]).length) c75 (fl intL (O ++ [z5.peer])), Old w no] := H77
                refine l_of (s_val (v := .slice p74 ((O ++ [z5.peer]).length) c75) (wt0 rfl) rfl rfl (x_assign rfl rfl) ?_)
                refine g_nil ?_
                refine g_in ?_
                refine g_then ?_
                refine g_round (i := (k9, po, co, O)) ((k9 + 1), p74, c75, (O ++ [z5.peer])) ?_ ?_ ?_
                · exact ⟨rfl, rfl, rfl, rfl, rfl, trivial⟩
                · exact ⟨(snoc_take hO hpk), (by simp only [List.length_append, List.length_cons, List.length_nil]; omega), (by omega), (H77.takes [1, 2] (by decide))⟩
                · (try dsimp only); omega
          · skip
            refine g_cond_f rfl (decide_eq_false hb9) ?_
            refine g_exit ?_
            have hF : O = (firstV l slots sd).map Rv.id := first_end hO hks (.inl (by omega))
            refine g_then_exit ?_
            refine g_then_exit ?_
            refine g_in_hit ?_
            refine g_then ?_
            refine g_seq ?_
            refine g_region ?_
            refine l_of (s_val (v := .int .i64 (-1)) (wt0 rfl) rfl rfl (x_assign rfl rfl) ?_)
            refine g_nil ?_
            refine g_then ?_
            refine g_seq ?_
            refine g_seq ?_
            refine g_region ?_
            refine l_of (s_val (v := .slice p n c) (wt0 rfl) rfl rfl (x_move rfl rfl) ?_)
            refine l_of (s_val (v := .int .i64 ((n : Int))) (wt0 rfl) rfl rfl (x_lenl rfl rfl Try.underlying33) ?_)
            refine l_of (s_val (v := .int .i64 0) (wt0 rfl) rfl rfl (x_move rfl rfl) ?_)
            refine g_nil ?_
            refine g_then ?_
            refine g_block ?_
            refine g_loop (ι := Nat × Int) (fun (i8, at8) => [(0, .slice p n c), (3, .int .i64 turn), (11, .slice po O.length co), (15, .int .i64 at8), (86, .slice p n c), (87, .int .i64 ((n : Int))), (88, .int .i64 ((i8 : Int)))]) (fun (i8, at8) wx => (i8 ≤ n) ∧ (AtB (fun a b => cR turn (toRv sd a) (toRv sd b)) (fun y => q2 O (toRv sd y)) l i8 at8) ∧ S wx [Rw 3 1 po O.length co (fl intL O), Old w no]) (fun (i8, at8) => n - i8) (0, (-1)) ⟨rfl, rfl, rfl, rfl, rfl, rfl, rfl, trivial⟩ ⟨Nat.zero_le _, AtB.start, (H8.takes [0, 1] (by decide))⟩ ?_
            rintro ⟨i8, at8⟩ wq79 ⟨hi8, hat, H80⟩
            replace H80 : S wq79 [Rw 3 1 po O.length co (fl intL O), Old w no] := H80
            refine g_weak [(0, .slice p n c), (3, .int .i64 turn), (11, .slice po O.length co), (15, .int .i64 at8), (86, .slice p n c), (87, .int .i64 ((n : Int))), (88, .int .i64 ((i8 : Int)))] ⟨rfl, rfl, rfl, rfl, rfl, rfl, rfl, trivial⟩ ?_
            refine g_seq ?_
            refine g_region ?_
            refine l_of (s_val (v := .bool (decide (((i8 : Int) : Int) < (n : Int)))) (wt0 rfl) rfl rfl (x_bin rfl rfl rfl b_lss) ?_)
            refine g_nil ?_
            refine g_then ?_
            refine g_seq ?_
            by_cases hb81 : ((i8 : Int) : Int) < (n : Int)
            · skip
              refine g_cond_t rfl (decide_eq_true hb81) ?_
              refine g_skip ?_
              refine g_then ?_
              refine g_seq ?_
              refine g_block ?_
              refine g_seq ?_
              refine g_region ?_
              refine l_of (s_val (v := .int .i64 ((i8 : Int))) (wt0 rfl) rfl rfl (x_move rfl rfl) ?_)
              refine l_of (s_val (v := .pointer ((p).map fun q => q.add (i8 * 6))) (wt0 rfl) rfl rfl (x_idxR i8 (H80.exReads (k := 1) rfl hr (fun _ _ _ h => h)) rfl rfl rfl Try.underlying33 sz57 (by omega)) ?_)
              have hlq := (H80.exReads (k := 1) rfl hr (fun _ _ _ h => h)).lenL rtE
              obtain ⟨x82, hx82⟩ := ex_at (l := l) (j := i8) (by omega)
              clear hlq
              refine l_of (s_val (v := .agg #[.int .i64 (x82.peer), .bool x82.wants, .int .i64 (x82.gave), .int .i64 (x82.got), .bool x82.snb, .int .i64 (x82.lt)]) (wt0 rfl) rfl rfl (x_loadRA (vs := rtL x82) i8 (H80.exReads (k := 1) rfl hr (fun _ _ _ h => h)) (by omega) rfl rfl Try.underlying57 rfl sz57 (by rfl) (rtE.flAt hx82)) ?_)
              refine l_of (s_alloc H80 (wt0 rfl) rfl rfl rfl ze57 ?_)
              intro g83 wq84 H85
              refine l_of (s_val (v := .int .i64 ((i8 : Int))) (wt0 rfl) rfl rfl (x_assign rfl rfl) ?_)
              refine l_of (s_store H85 0 (wt0 rfl) rfl rfl rfl rfl rfl sz57 rfl rfl (cs' := #[.int .i64 (x82.peer), .bool x82.wants, .int .i64 (x82.gave), .int .i64 (x82.got), .bool x82.snb, .int .i64 (x82.lt)]) rfl ?_)
              intro wq86 H87
              refine g_nil ?_
              refine g_then ?_
              refine g_seq ?_
              refine g_any [] (fun wx => S wx [Ob g83 (.cells #[.int .i64 (x82.peer), .bool x82.wants, .int .i64 (x82.gave), .int .i64 (x82.got), .bool x82.snb, .int .i64 (x82.lt)] 57 (0, 0)), Rw 3 1 po O.length co (fl intL O), Old w no]) [] (by kernel_rfl) H87 (fun wq88 H89 => ?_)
              refine a_take (v := .pointer (some ⟨g83, 1, none⟩)) 0 rfl (wt0 rfl) rfl rfl rfl (by kernel_rfl) (by kernel_rfl) (by kernel_rfl) (by kernel_rfl) H89 (fun wx H => x_fieldAddr rfl rfl fo57_1 rfl) ?_
              refine a_take (v := .bool x82.wants) 1 rfl (wt0 rfl) rfl rfl rfl (by kernel_rfl) (by kernel_rfl) (by kernel_rfl) (by kernel_rfl) H89 (fun wx H => x_load1 H 0 rfl rfl Try.underlying4 rfl rfl rfl) ?_
              refine a_take (v := .bool x82.wants) 2 rfl (wt0 rfl) rfl rfl rfl (by kernel_rfl) (by kernel_rfl) (by kernel_rfl) (by kernel_rfl) H89 (fun wx H => x_move rfl rfl) ?_
              rcases Bool.eq_false_or_eq_true (x82.wants) with hb90 | hb90
              · skip
                refine a_take (v := .slice po O.length co) 3 rfl (wt1 rfl rfl rfl rfl hb90) rfl rfl rfl (by kernel_rfl) (by kernel_rfl) (by kernel_rfl) (by kernel_rfl) H89 (fun wx H => x_move rfl rfl) ?_
                refine a_take (v := .pointer (some ⟨g83, 0, none⟩)) 4 rfl (wt1 rfl rfl rfl rfl hb90) rfl rfl rfl (by kernel_rfl) (by kernel_rfl) (by kernel_rfl) (by kernel_rfl) H89 (fun wx H => x_fieldAddr rfl rfl fo57_0 rfl) ?_
                refine a_take (v := .int .i64 (x82.peer)) 5 rfl (wt1 rfl rfl rfl rfl hb90) rfl rfl rfl (by kernel_rfl) (by kernel_rfl) (by kernel_rfl) (by kernel_rfl) H89 (fun wx H => x_load1 H 0 rfl rfl Try.underlying3 rfl rfl rfl) ?_
                refine a_one (i := 6) (by kernel_rfl) rfl ?_
                refine s_call (wt1 rfl rfl rfl rfl hb90) (x_call' rfl rfl cl30) (in_r O po O.length co x82.peer (by omega) _ (H89.rwReads (k := 1) rfl)) ?_
                rintro _ wq91 ⟨rfl, H92⟩
                replace H92 : S wq91 [Ob g83 (.cells #[.int .i64 (x82.peer), .bool x82.wants, .int .i64 (x82.gave), .int .i64 (x82.got), .bool x82.snb, .int .i64 (x82.lt)] 57 (0, 0)), Rw 3 1 po O.length co (fl intL O), Old w no] := H89.absorb (new := []) H92
                refine b_ret rfl rfl ?_
                refine a_k H92 ?_
                refine a_take (v := .bool (!((decide (x82.peer ∈ O))))) 7 rfl (wt1 rfl rfl rfl rfl hb90) rfl rfl rfl (by kernel_rfl) (by kernel_rfl) (by kernel_rfl) (by kernel_rfl) H92 (fun wx H => x_not (b := (decide (x82.peer ∈ O))) rfl rfl) ?_
                refine a_take (v := .bool (!((decide (x82.peer ∈ O))))) 8 rfl (wt0 rfl) rfl rfl rfl (by kernel_rfl) (by kernel_rfl) (by kernel_rfl) (by kernel_rfl) H92 (fun wx H => x_pick_t rfl rfl hb90 rfl) ?_
                refine a_take (v := .bool (!((decide (x82.peer ∈ O))))) 9 rfl (wt0 rfl) rfl rfl rfl (by kernel_rfl) (by kernel_rfl) (by kernel_rfl) (by kernel_rfl) H92 (fun wx H => x_move rfl rfl) ?_
                rcases Bool.eq_false_or_eq_true ((decide (x82.peer ∈ O))) with hb93 | hb93
                · skip
                  refine a_not 10 rfl (wn1 rfl rfl rfl rfl (neg_of hb93)) rfl rfl rfl (by kernel_rfl) (by kernel_rfl) (by kernel_rfl) (by kernel_rfl) H92 ?_
                  refine a_not 11 rfl (wn1 rfl rfl rfl rfl (neg_of hb93)) rfl rfl rfl (by kernel_rfl) (by kernel_rfl) (by kernel_rfl) (by kernel_rfl) H92 ?_
                  refine a_not 12 rfl (wn1 rfl rfl rfl rfl (neg_of hb93)) rfl rfl rfl (by kernel_rfl) (by kernel_rfl) (by kernel_rfl) (by kernel_rfl) H92 ?_
                  refine a_not 13 rfl (wn2 rfl rfl rfl rfl) rfl rfl rfl (by kernel_rfl) (by kernel_rfl) (by kernel_rfl) (by kernel_rfl) H92 ?_
                  refine a_not 14 rfl (wn2 rfl rfl rfl rfl) rfl rfl rfl (by kernel_rfl) (by kernel_rfl) (by kernel_rfl) (by kernel_rfl) H92 ?_
                  refine a_not 15 rfl (wn2 rfl rfl rfl rfl) rfl rfl rfl (by kernel_rfl) (by kernel_rfl) (by kernel_rfl) (by kernel_rfl) H92 ?_
                  refine a_not 16 rfl (wn2 rfl rfl rfl rfl) rfl rfl rfl (by kernel_rfl) (by kernel_rfl) (by kernel_rfl) (by kernel_rfl) H92 ?_
                  refine a_not 17 rfl (wn2 rfl rfl rfl rfl) rfl rfl rfl (by kernel_rfl) (by kernel_rfl) (by kernel_rfl) (by kernel_rfl) H92 ?_
                  refine a_not 18 rfl (wn2 rfl rfl rfl rfl) rfl rfl rfl (by kernel_rfl) (by kernel_rfl) (by kernel_rfl) (by kernel_rfl) H92 ?_
                  refine a_one (i := 19) (by kernel_rfl) rfl ?_
                  refine s_not (wn2 rfl rfl rfl rfl) rfl rfl ?_
                  refine a_k H92 ?_
                  refine a_not 20 rfl (wn1 rfl rfl rfl rfl (neg_of hb93)) rfl rfl rfl (by kernel_rfl) (by kernel_rfl) (by kernel_rfl) (by kernel_rfl) H92 ?_
                  refine a_take (v := .bool false) 21 rfl (wt0 rfl) rfl rfl rfl (by kernel_rfl) (by kernel_rfl) (by kernel_rfl) (by kernel_rfl) H92 (fun wx H => x_pick_f rfl rfl (neg_of hb93) rfl) ?_
                  refine a_done (by kernel_rfl) ?_
                  refine g_then ?_
                  refine g_cond_f rfl rfl ?_
                  refine g_skip ?_
                  refine g_in ?_
                  refine g_then ?_
                  refine g_weak [(0, .slice p n c), (3, .int .i64 turn), (11, .slice po O.length co), (15, .int .i64 at8), (86, .slice p n c), (87, .int .i64 ((n : Int))), (88, .int .i64 ((i8 : Int))), (96, .slice po O.length co), (97, .pointer (some ⟨g83, 0, none⟩)), (98, .int .i64 (x82.peer)), (99, .bool ((decide (x82.peer ∈ O)))), (100, .bool (!((decide (x82.peer ∈ O))))), (103, undef), (104, undef), (105, undef), (106, undef), (107, undef), (108, undef), (109, undef), (110, undef), (111, undef), (112, undef), (113, undef)] ⟨rfl, rfl, rfl, rfl, rfl, rfl, rfl, rfl, rfl, rfl, rfl, rfl, rfl, rfl, rfl, rfl, rfl, rfl, rfl, rfl, rfl, rfl, rfl, trivial⟩ ?_
                  refine g_region ?_
                  refine l_of (s_val (v := .int .i64 (((i8 + 1 : Nat) : Int))) (wt0 rfl) rfl rfl (x_bin rfl rfl rfl (b_add (by rw [w64 (by omega)]; omega))) ?_)
                  refine l_of (s_val (v := .int .i64 (((i8 + 1 : Nat) : Int))) (wt0 rfl) rfl rfl (x_move rfl rfl) ?_)
                  refine g_nil ?_
                  refine g_then ?_
                  refine g_round (i := (i8, at8)) ((i8 + 1), at8) ?_ ?_ ?_
                  · exact ⟨rfl, rfl, rfl, rfl, rfl, rfl, rfl, trivial⟩
                  · exact ⟨by omega, (hat.skip hx82 (by unfold q2 toRv; simp [hb6, hb90, hb93])), (H92.takes [1, 2] (by decide))⟩
                  · (try dsimp only); omega
                · skip
                  refine a_take (v := .int .i64 at8) 10 rfl (wt1 rfl rfl rfl rfl (neg_of hb93)) rfl rfl rfl (by kernel_rfl) (by kernel_rfl) (by kernel_rfl) (by kernel_rfl) H92 (fun wx H => x_move rfl rfl) ?_
                  refine a_take (v := .bool (decide ((at8 : Int) < 0))) 11 rfl (wt1 rfl rfl rfl rfl (neg_of hb93)) rfl rfl rfl (by kernel_rfl) (by kernel_rfl) (by kernel_rfl) (by kernel_rfl) H92 (fun wx H => x_bin rfl rfl rfl b_lss) ?_
                  refine a_take (v := .bool (decide ((at8 : Int) < 0))) 12 rfl (wt1 rfl rfl rfl rfl (neg_of hb93)) rfl rfl rfl (by kernel_rfl) (by kernel_rfl) (by kernel_rfl) (by kernel_rfl) H92 (fun wx H => x_move rfl rfl) ?_
                  by_cases hb94 : (at8 : Int) < 0
                  · skip
                    refine a_not 13 rfl (wn1 rfl rfl rfl rfl (decide_eq_true hb94)) rfl rfl rfl (by kernel_rfl) (by kernel_rfl) (by kernel_rfl) (by kernel_rfl) H92 ?_
                    refine a_not 14 rfl (wn1 rfl rfl rfl rfl (decide_eq_true hb94)) rfl rfl rfl (by kernel_rfl) (by kernel_rfl) (by kernel_rfl) (by kernel_rfl) H92 ?_
                    refine a_not 15 rfl (wn1 rfl rfl rfl rfl (decide_eq_true hb94)) rfl rfl rfl (by kernel_rfl) (by kernel_rfl) (by kernel_rfl) (by kernel_rfl) H92 ?_
                    refine a_not 16 rfl (wn1 rfl rfl rfl rfl (decide_eq_true hb94)) rfl rfl rfl (by kernel_rfl) (by kernel_rfl) (by kernel_rfl) (by kernel_rfl) H92 ?_
                    refine a_not 17 rfl (wn1 rfl rfl rfl rfl (decide_eq_true hb94)) rfl rfl rfl (by kernel_rfl) (by kernel_rfl) (by kernel_rfl) (by kernel_rfl) H92 ?_
                    refine a_not 18 rfl (wn1 rfl rfl rfl rfl (decide_eq_true hb94)) rfl rfl rfl (by kernel_rfl) (by kernel_rfl) (by kernel_rfl) (by kernel_rfl) H92 ?_
                    refine a_one (i := 19) (by kernel_rfl) rfl ?_
                    refine s_not (wn1 rfl rfl rfl rfl (decide_eq_true hb94)) rfl rfl ?_
                    refine a_k H92 ?_
                    refine a_take (v := .bool true) 20 rfl (wt1 rfl rfl rfl rfl (neg_of hb93)) rfl rfl rfl (by kernel_rfl) (by kernel_rfl) (by kernel_rfl) (by kernel_rfl) H92 (fun wx H => x_pick_t rfl rfl (decide_eq_true hb94) rfl) ?_
                    refine a_take (v := .bool true) 21 rfl (wt0 rfl) rfl rfl rfl (by kernel_rfl) (by kernel_rfl) (by kernel_rfl) (by kernel_rfl) H92 (fun wx H => x_pick_t rfl rfl (neg_of hb93) rfl) ?_
                    refine a_done (by kernel_rfl) ?_
                    refine g_then ?_
                    refine g_cond_t rfl rfl ?_
                    refine g_region ?_
                    refine l_of (s_val (v := .int .i64 ((i8 : Int))) (wt0 rfl) rfl rfl (x_move rfl rfl) ?_)
                    refine l_of (s_val (v := .int .i64 ((i8 : Int))) (wt0 rfl) rfl rfl (x_assign rfl rfl) ?_)
                    refine g_nil ?_
                    refine g_in ?_
                    refine g_then ?_
                    refine g_weak [(0, .slice p n c), (3, .int .i64 turn), (11, .slice po O.length co), (15, .int .i64 ((i8 : Int))), (86, .slice p n c), (87, .int .i64 ((n : Int))), (88, .int .i64 ((i8 : Int))), (96, .slice po O.length co), (97, .pointer (some ⟨g83, 0, none⟩)), (98, .int .i64 (x82.peer)), (99, .bool ((decide (x82.peer ∈ O)))), (100, .bool (!((decide (x82.peer ∈ O))))), (103, .int .i64 at8), (104, .bool (decide ((at8 : Int) < 0))), (105, .bool (decide ((at8 : Int) < 0))), (106, undef), (107, undef), (108, undef), (109, undef), (110, undef), (111, undef), (112, undef), (113, .bool true)] ⟨rfl, rfl, rfl, rfl, rfl, rfl, rfl, rfl, rfl, rfl, rfl, rfl, rfl, rfl, rfl, rfl, rfl, rfl, rfl, rfl, rfl, rfl, rfl, trivial⟩ ?_
                    refine g_region ?_
                    refine l_of (s_val (v := .int .i64 (((i8 + 1 : Nat) : Int))) (wt0 rfl) rfl rfl (x_bin rfl rfl rfl (b_add (by rw [w64 (by omega)]; omega))) ?_)
                    refine l_of (s_val (v := .int .i64 (((i8 + 1 : Nat) : Int))) (wt0 rfl) rfl rfl (x_move rfl rfl) ?_)
                    refine g_nil ?_
                    refine g_then ?_
                    refine g_round (i := (i8, at8)) ((i8 + 1), (i8 : Int)) ?_ ?_ ?_
                    · exact ⟨rfl, rfl, rfl, rfl, rfl, rfl, rfl, trivial⟩
                    · exact ⟨by omega, (hat.first ((cR_wk turn).comap (toRv sd)) hb94 hx82 (by unfold q2 toRv; simp [hb6, hb90, hb93, hb94])), (H92.takes [1, 2] (by decide))⟩
                    · (try dsimp only); omega
                  · skip
                    obtain ⟨j6, z6, rfl, hj6, hz6, hPz6, hbz6⟩ := hat.at hb94
                    have hjl6 := (List.getElem?_eq_some_iff.1 hz6).1
                    refine a_take (v := .int .i64 turn) 13 rfl (wt1 rfl rfl rfl rfl (decide_eq_false hb94)) rfl rfl rfl (by kernel_rfl) (by kernel_rfl) (by kernel_rfl) (by kernel_rfl) H92 (fun wx H => x_move rfl rfl) ?_
                    refine a_take (v := .agg #[.int .i64 (x82.peer), .bool x82.wants, .int .i64 (x82.gave), .int .i64 (x82.got), .bool x82.snb, .int .i64 (x82.lt)]) 14 rfl (wt1 rfl rfl rfl rfl (decide_eq_false hb94)) rfl rfl rfl (by kernel_rfl) (by kernel_rfl) (by kernel_rfl) (by kernel_rfl) H92 (fun wx H => x_loadA H 0 rfl rfl Try.underlying57 rfl sz57 rfl rfl rfl) ?_
                    refine a_take (v := .slice p n c) 15 rfl (wt1 rfl rfl rfl rfl (decide_eq_false hb94)) rfl rfl rfl (by kernel_rfl) (by kernel_rfl) (by kernel_rfl) (by kernel_rfl) H92 (fun wx H => x_move rfl rfl) ?_
                    refine a_take (v := .int .i64 ((j6 : Int))) 16 rfl (wt1 rfl rfl rfl rfl (decide_eq_false hb94)) rfl rfl rfl (by kernel_rfl) (by kernel_rfl) (by kernel_rfl) (by kernel_rfl) H92 (fun wx H => x_move rfl rfl) ?_
                    refine a_take (v := .pointer ((p).map fun q => q.add (j6 * 6))) 17 rfl (wt1 rfl rfl rfl rfl (decide_eq_false hb94)) rfl rfl rfl (by kernel_rfl) (by kernel_rfl) (by kernel_rfl) (by kernel_rfl) H92 (fun wx H => x_idxP j6 ((H92.exReads (k := 2) rfl hr (fun _ _ _ h => h)).some (by omega)) rfl rfl rfl Try.underlying33 sz57 (by omega)) ?_
                    refine a_take (v := .agg #[.int .i64 (z6.peer), .bool z6.wants, .int .i64 (z6.gave), .int .i64 (z6.got), .bool z6.snb, .int .i64 (z6.lt)]) 18 rfl (wt1 rfl rfl rfl rfl (decide_eq_false hb94)) rfl rfl rfl (by kernel_rfl) (by kernel_rfl) (by kernel_rfl) (by kernel_rfl) H92 (fun wx H => x_loadRA (vs := rtL z6) j6 (H.exReads (k := 2) rfl hr (fun _ _ _ h => h)) (by omega) rfl rfl Try.underlying57 rfl sz57 (by rfl) (rtE.flAt hz6)) ?_
                    refine a_one (i := 19) (by kernel_rfl) rfl ?_
                    refine s_call (wt1 rfl rfl rfl rfl (decide_eq_false hb94)) (x_call' rfl rfl cl48) (sooner_r turn sd x82 z6 _) ?_
                    rintro _ wq95 ⟨rfl, H96⟩
                    replace H96 : S wq95 [Ob g83 (.cells #[.int .i64 (x82.peer), .bool x82.wants, .int .i64 (x82.gave), .int .i64 (x82.got), .bool x82.snb, .int .i64 (x82.lt)] 57 (0, 0)), Rw 3 1 po O.length co (fl intL O), Old w no] := H92.absorb (new := []) H96
                    refine b_ret rfl rfl ?_
                    refine a_k H96 ?_
                    refine a_take (v := .bool ((decide (cR turn (toRv sd x82) (toRv sd z6) < 0)))) 20 rfl (wt1 rfl rfl rfl rfl (neg_of hb93)) rfl rfl rfl (by kernel_rfl) (by kernel_rfl) (by kernel_rfl) (by kernel_rfl) H96 (fun wx H => x_pick_f rfl rfl (decide_eq_false hb94) rfl) ?_
                    refine a_take (v := .bool ((decide (cR turn (toRv sd x82) (toRv sd z6) < 0)))) 21 rfl (wt0 rfl) rfl rfl rfl (by kernel_rfl) (by kernel_rfl) (by kernel_rfl) (by kernel_rfl) H96 (fun wx H => x_pick_t rfl rfl (neg_of hb93) rfl) ?_
                    refine a_done (by kernel_rfl) ?_
                    refine g_then ?_
                    rcases Bool.eq_false_or_eq_true ((decide (cR turn (toRv sd x82) (toRv sd z6) < 0))) with hb97 | hb97
                    · skip
                      refine g_cond_t rfl hb97 ?_
                      refine g_region ?_
                      refine l_of (s_val (v := .int .i64 ((i8 : Int))) (wt0 rfl) rfl rfl (x_move rfl rfl) ?_)
                      refine l_of (s_val (v := .int .i64 ((i8 : Int))) (wt0 rfl) rfl rfl (x_assign rfl rfl) ?_)
                      refine g_nil ?_
                      refine g_in ?_
                      refine g_then ?_
                      refine g_weak [(0, .slice p n c), (3, .int .i64 turn), (11, .slice po O.length co), (15, .int .i64 ((i8 : Int))), (86, .slice p n c), (87, .int .i64 ((n : Int))), (88, .int .i64 ((i8 : Int))), (96, .slice po O.length co), (97, .pointer (some ⟨g83, 0, none⟩)), (98, .int .i64 (x82.peer)), (99, .bool ((decide (x82.peer ∈ O)))), (100, .bool (!((decide (x82.peer ∈ O))))), (103, .int .i64 ((j6 : Int))), (104, .bool (decide (((j6 : Int) : Int) < 0))), (105, .bool (decide (((j6 : Int) : Int) < 0))), (106, .int .i64 turn), (107, .agg #[.int .i64 (x82.peer), .bool x82.wants, .int .i64 (x82.gave), .int .i64 (x82.got), .bool x82.snb, .int .i64 (x82.lt)]), (108, .slice p n c), (109, .int .i64 ((j6 : Int))), (110, .pointer ((p).map fun q => q.add (j6 * 6))), (111, .agg #[.int .i64 (z6.peer), .bool z6.wants, .int .i64 (z6.gave), .int .i64 (z6.got), .bool z6.snb, .int .i64 (z6.lt)]), (112, .bool ((decide (cR turn (toRv sd x82) (toRv sd z6) < 0)))), (113, .bool ((decide (cR turn (toRv sd x82) (toRv sd z6) < 0))))] ⟨rfl, rfl, rfl, rfl, rfl, rfl, rfl, rfl, rfl, rfl, rfl, rfl, rfl, rfl, rfl, rfl, rfl, rfl, rfl, rfl, rfl, rfl, rfl, trivial⟩ ?_
                      refine g_region ?_
                      refine l_of (s_val (v := .int .i64 (((i8 + 1 : Nat) : Int))) (wt0 rfl) rfl rfl (x_bin rfl rfl rfl (b_add (by rw [w64 (by omega)]; omega))) ?_)
                      refine l_of (s_val (v := .int .i64 (((i8 + 1 : Nat) : Int))) (wt0 rfl) rfl rfl (x_move rfl rfl) ?_)
                      refine g_nil ?_
                      refine g_then ?_
                      refine g_round (i := (i8, (j6 : Int))) ((i8 + 1), (i8 : Int)) ?_ ?_ ?_
                      · exact ⟨rfl, rfl, rfl, rfl, rfl, rfl, rfl, trivial⟩
                      · exact ⟨by omega, (AtB.better ((cR_wk turn).comap (toRv sd)) hbz6 hx82 (by unfold q2 toRv; simp [hb6, hb90, hb93, hb94, hb97]) (of_decide_eq_true hb97)), (H96.takes [1, 2] (by decide))⟩
                      · (try dsimp only); omega
                    · skip
                      refine g_cond_f rfl hb97 ?_
                      refine g_skip ?_
                      refine g_in ?_
                      refine g_then ?_
                      refine g_weak [(0, .slice p n c), (3, .int .i64 turn), (11, .slice po O.length co), (15, .int .i64 ((j6 : Int))), (86, .slice p n c), (87, .int .i64 ((n : Int))), (88, .int .i64 ((i8 : Int))), (96, .slice po O.length co), (97, .pointer (some ⟨g83, 0, none⟩)), (98, .int .i64 (x82.peer)), (99, .bool ((decide (x82.peer ∈ O)))), (100, .bool (!((decide (x82.peer ∈ O))))), (103, .int .i64 ((j6 : Int))), (104, .bool (decide (((j6 : Int) : Int) < 0))), (105, .bool (decide (((j6 : Int) : Int) < 0))), (106, .int .i64 turn), (107, .agg #[.int .i64 (x82.peer), .bool x82.wants, .int .i64 (x82.gave), .int .i64 (x82.got), .bool x82.snb, .int .i64 (x82.lt)]), (108, .slice p n c), (109, .int .i64 ((j6 : Int))), (110, .pointer ((p).map fun q => q.add (j6 * 6))), (111, .agg #[.int .i64 (z6.peer), .bool z6.wants, .int .i64 (z6.gave), .int .i64 (z6.got), .bool z6.snb, .int .i64 (z6.lt)]), (112, .bool ((decide (cR turn (toRv sd x82) (toRv sd z6) < 0)))), (113, .bool ((decide (cR turn (toRv sd x82) (toRv sd z6) < 0))))] ⟨rfl, rfl, rfl, rfl, rfl, rfl, rfl, rfl, rfl, rfl, rfl, rfl, rfl, rfl, rfl, rfl, rfl, rfl, rfl, rfl, rfl, rfl, rfl, trivial⟩ ?_
                      refine g_region ?_
                      refine l_of (s_val (v := .int .i64 (((i8 + 1 : Nat) : Int))) (wt0 rfl) rfl rfl (x_bin rfl rfl rfl (b_add (by rw [w64 (by omega)]; omega))) ?_)
                      refine l_of (s_val (v := .int .i64 (((i8 + 1 : Nat) : Int))) (wt0 rfl) rfl rfl (x_move rfl rfl) ?_)
                      refine g_nil ?_
                      refine g_then ?_
                      refine g_round (i := (i8, (j6 : Int))) ((i8 + 1), (j6 : Int)) ?_ ?_ ?_
                      · exact ⟨rfl, rfl, rfl, rfl, rfl, rfl, rfl, trivial⟩
                      · exact ⟨by omega, (AtB.stay hj6 hz6 hPz6 hbz6 hx82 (of_decide_eq_false hb97)), (H96.takes [1, 2] (by decide))⟩
                      · (try dsimp only); omega
              · skip
                refine a_not 3 rfl (wn1 rfl rfl rfl rfl hb90) rfl rfl rfl (by kernel_rfl) (by kernel_rfl) (by kernel_rfl) (by kernel_rfl) H89 ?_
                refine a_not 4 rfl (wn1 rfl rfl rfl rfl hb90) rfl rfl rfl (by kernel_rfl) (by kernel_rfl) (by kernel_rfl) (by kernel_rfl) H89 ?_
                refine a_not 5 rfl (wn1 rfl rfl rfl rfl hb90) rfl rfl rfl (by kernel_rfl) (by kernel_rfl) (by kernel_rfl) (by kernel_rfl) H89 ?_
                refine a_one (i := 6) (by kernel_rfl) rfl ?_
                refine s_not (wn1 rfl rfl rfl rfl hb90) rfl rfl ?_
                refine a_k H89 ?_
                refine a_not 7 rfl (wn1 rfl rfl rfl rfl hb90) rfl rfl rfl (by kernel_rfl) (by kernel_rfl) (by kernel_rfl) (by kernel_rfl) H89 ?_
                refine a_take (v := .bool false) 8 rfl (wt0 rfl) rfl rfl rfl (by kernel_rfl) (by kernel_rfl) (by kernel_rfl) (by kernel_rfl) H89 (fun wx H => x_pick_f rfl rfl hb90 rfl) ?_
                refine a_take (v := .bool false) 9 rfl (wt0 rfl) rfl rfl rfl (by kernel_rfl) (by kernel_rfl) (by kernel_rfl) (by kernel_rfl) H89 (fun wx H => x_move rfl rfl) ?_
                refine a_not 10 rfl (wn1 rfl rfl rfl rfl rfl) rfl rfl rfl (by kernel_rfl) (by kernel_rfl) (by kernel_rfl) (by kernel_rfl) H89 ?_
                refine a_not 11 rfl (wn1 rfl rfl rfl rfl rfl) rfl rfl rfl (by kernel_rfl) (by kernel_rfl) (by kernel_rfl) (by kernel_rfl) H89 ?_
                refine a_not 12 rfl (wn1 rfl rfl rfl rfl rfl) rfl rfl rfl (by kernel_rfl) (by kernel_rfl) (by kernel_rfl) (by kernel_rfl) H89 ?_
                refine a_not 13 rfl (wn2 rfl rfl rfl rfl) rfl rfl rfl (by kernel_rfl) (by kernel_rfl) (by kernel_rfl) (by kernel_rfl) H89 ?_
                refine a_not 14 rfl (wn2 rfl rfl rfl rfl) rfl rfl rfl (by kernel_rfl) (by kernel_rfl) (by kernel_rfl) (by kernel_rfl) H89 ?_
                refine a_not 15 rfl (wn2 rfl rfl rfl rfl) rfl rfl rfl (by kernel_rfl) (by kernel_rfl) (by kernel_rfl) (by kernel_rfl) H89 ?_
                refine a_not 16 rfl (wn2 rfl rfl rfl rfl) rfl rfl rfl (by kernel_rfl) (by kernel_rfl) (by kernel_rfl) (by kernel_rfl) H89 ?_
                refine a_not 17 rfl (wn2 rfl rfl rfl rfl) rfl rfl rfl (by kernel_rfl) (by kernel_rfl) (by kernel_rfl) (by kernel_rfl) H89 ?_
                refine a_not 18 rfl (wn2 rfl rfl rfl rfl) rfl rfl rfl (by kernel_rfl) (by kernel_rfl) (by kernel_rfl) (by kernel_rfl) H89 ?_
                refine a_one (i := 19) (by kernel_rfl) rfl ?_
                refine s_not (wn2 rfl rfl rfl rfl) rfl rfl ?_
                refine a_k H89 ?_
                refine a_not 20 rfl (wn1 rfl rfl rfl rfl rfl) rfl rfl rfl (by kernel_rfl) (by kernel_rfl) (by kernel_rfl) (by kernel_rfl) H89 ?_
                refine a_take (v := .bool false) 21 rfl (wt0 rfl) rfl rfl rfl (by kernel_rfl) (by kernel_rfl) (by kernel_rfl) (by kernel_rfl) H89 (fun wx H => x_pick_f rfl rfl rfl rfl) ?_
                refine a_done (by kernel_rfl) ?_
                refine g_then ?_
                refine g_cond_f rfl rfl ?_
                refine g_skip ?_
                refine g_in ?_
                refine g_then ?_
                refine g_weak [(0, .slice p n c), (3, .int .i64 turn), (11, .slice po O.length co), (15, .int .i64 at8), (86, .slice p n c), (87, .int .i64 ((n : Int))), (88, .int .i64 ((i8 : Int))), (96, undef), (97, undef), (98, undef), (99, undef), (100, undef), (103, undef), (104, undef), (105, undef), (106, undef), (107, undef), (108, undef), (109, undef), (110, undef), (111, undef), (112, undef), (113, undef)] ⟨rfl, rfl, rfl, rfl, rfl, rfl, rfl, rfl, rfl, rfl, rfl, rfl, rfl, rfl, rfl, rfl, rfl, rfl, rfl, rfl, rfl, rfl, rfl, trivial⟩ ?_
                refine g_region ?_
                refine l_of (s_val (v := .int .i64 (((i8 + 1 : Nat) : Int))) (wt0 rfl) rfl rfl (x_bin rfl rfl rfl (b_add (by rw [w64 (by omega)]; omega))) ?_)
                refine l_of (s_val (v := .int .i64 (((i8 + 1 : Nat) : Int))) (wt0 rfl) rfl rfl (x_move rfl rfl) ?_)
                refine g_nil ?_
                refine g_then ?_
                refine g_round (i := (i8, at8)) ((i8 + 1), at8) ?_ ?_ ?_
                · exact ⟨rfl, rfl, rfl, rfl, rfl, rfl, rfl, trivial⟩
                · exact ⟨by omega, (hat.skip hx82 (by unfold q2 toRv; simp [hb6, hb90])), (H89.takes [1, 2] (by decide))⟩
                · (try dsimp only); omega
            · skip
              refine g_cond_f rfl (decide_eq_false hb81) ?_
              refine g_exit ?_
              refine g_then_exit ?_
              refine g_then_exit ?_
              refine g_in_hit ?_
              refine g_then ?_
              refine g_seq ?_
              refine g_seq ?_
              refine g_region ?_
              refine l_of (s_val (v := .int .i64 at8) (wt0 rfl) rfl rfl (x_move rfl rfl) ?_)
              refine l_of (s_val (v := .bool (decide ((0 : Int) ≤ at8))) (wt0 rfl) rfl rfl (x_bin rfl rfl rfl b_geq) ?_)
              refine g_nil ?_
              refine g_then ?_
              by_cases hb98 : (0 : Int) ≤ at8
              · skip
                obtain ⟨j7, z7, rfl, hj7, hz7, hPz7, hbz7⟩ := hat.at (by omega)
                have hjl7 := (List.getElem?_eq_some_iff.1 hz7).1
                refine g_cond_t rfl (decide_eq_true hb98) ?_
                refine g_region ?_
                refine l_of (s_val (v := .slice po O.length co) (wt0 rfl) rfl rfl (x_move rfl rfl) ?_)
                refine l_of (s_val (v := .slice p n c) (wt0 rfl) rfl rfl (x_move rfl rfl) ?_)
                refine l_of (s_val (v := .int .i64 ((j7 : Int))) (wt0 rfl) rfl rfl (x_move rfl rfl) ?_)
                refine l_of (s_val (v := .pointer ((p).map fun q => q.add (j7 * 6))) (wt0 rfl) rfl rfl (x_idxR j7 (H80.exReads (k := 1) rfl hr (fun _ _ _ h => h)) rfl rfl rfl Try.underlying33 sz57 (by omega)) ?_)
                refine l_of (s_val (v := .pointer ((p).map fun q => q.add (j7 * 6 + 0))) (wt0 rfl) rfl rfl (ex_cast (x_fieldAddrG (m := j7 * 6) ((H80.exReads (k := 1) rfl hr (fun _ _ _ h => h)).some (by omega)) rfl rfl fo57_0) rfl) ?_)
                refine l_of (s_val (v := .int .i64 (z7.peer)) (wt0 rfl) rfl rfl (x_loadF1 (i := 0) (j := j7) rtE (H80.exReads (k := 1) rfl hr (fun _ _ _ h => h)) hz7 rfl rfl Try.underlying3 rfl rfl) ?_)
                refine l_of (s_buildSlice H80 (wt0 rfl) rfl rfl rfl (vs := [.int .i64 (z7.peer)]) rfl Try.underlying23 sz3 ze3 rfl rfl (cells := #[.int .i64 (z7.peer)]) (by kernel_rfl) ?_)
                intro g99 wq100 H101
                have hln106a := (H101.rwReads (k := 1) rfl).lenL intE
                have hln106 : (O ++ [z7.peer]).length = O.length + 1 := by simp only [List.length_append, List.length_cons, List.length_nil] <;> omega
                refine l_of (s_appBn (m := 1) (l := O) (l2 := [z7.peer]) intE H101 1 (j0 := 0) rfl rfl ⟨rfl, Nat.le_refl _⟩ (wt0 rfl) rfl rfl rfl rfl rfl rfl Try.underlying23 inf3 rfl (by decide) (by omega) ?_)
                intro p102 c103 wq104 H105
                replace H105 : S wq104 [Ob g99 (.cells #[.int .i64 (z7.peer)] 3 (0, 0)), Rw 3 1 p102 ((O ++ [z7.peer]).length) c103 (fl intL (O ++ [z7.peer])), Old w no] := H105
                refine l_of (s_val (v := .slice p102 ((O ++ [z7.peer]).length) c103) (wt0 rfl) rfl rfl (x_assign rfl rfl) ?_)
                refine g_nil ?_
                refine g_then ?_
                refine g_weak [(11, .slice p102 ((O ++ [z7.peer]).length) c103)] ⟨rfl, trivial⟩ ?_
                refine g_seq ?_
                refine g_region ?_
                refine l_of (s_val (v := .slice p102 ((O ++ [z7.peer]).length) c103) (wt0 rfl) rfl rfl (x_move rfl rfl) ?_)
                refine l_of (s_call (wt0 rfl) (x_call' rfl rfl cl31) (asc_r (O ++ [z7.peer]) p102 ((O ++ [z7.peer]).length) c103 (by omega) _ (H105.takes [1] (by decide))) ?_)
                rintro _ wq107 ⟨rfl, H108⟩
                replace H108 : S wq107 [Rw 3 1 p102 ((O ++ [z7.peer]).length) c103 (fl intL (sortI (O ++ [z7.peer]))), Ob g99 (.cells #[.int .i64 (z7.peer)] 3 (0, 0)), Old w no] := H105.absorbI (new := [Rw 3 1 p102 ((O ++ [z7.peer]).length) c103 (fl intL (sortI (O ++ [z7.peer])))]) [1] H108
                refine b_ret rfl rfl ?_
                refine l_of (s_val (v := .slice p102 ((O ++ [z7.peer]).length) c103) (wt0 rfl) rfl rfl (x_assign rfl rfl) ?_)
                refine l_of (s_val (v := .int .i64 0) (wt0 rfl) rfl rfl (x_assign rfl rfl) ?_)
                refine g_nil ?_
                refine g_then ?_
                refine g_ret ?_
                refine fin_ret [.tmp 8, .tmp 9] [.slice p102 ((O ++ [z7.peer]).length) c103, .int .i64 0] rfl ⟨rfl, rfl, trivial⟩ ?_
                have hv : rtErr l slots turn = 0 := rt_0 hnb hnd (by omega)
                rw [List.take_of_length_le (by omega)] at hbz7
                rw [hF] at hPz7 hbz7
                have hR : restV l slots sd turn = [toRv sd z7] := rest_one (by omega) hnd (List.mem_of_getElem? hz7) hPz7 hbz7
                have he : sortI (O ++ [z7.peer]) = choL l slots sd turn := by unfold choL; rw [List.map_append, hR, ← hF]; rfl
                have hel : (choL l slots sd turn).length = (O ++ [z7.peer]).length := by rw [← he, sortI_len]
                rw [cho_z hv, hv, hel, ← he]
                exact ⟨_, _, rfl, H108.takes [0, 2] (by decide)⟩
              · skip
                refine g_cond_f rfl (decide_eq_false hb98) ?_
                refine g_skip ?_
                refine g_then ?_
                refine g_seq ?_
                refine g_region ?_
                refine l_of (s_val (v := .slice po O.length co) (wt0 rfl) rfl rfl (x_move rfl rfl) ?_)
                refine l_of (s_call (wt0 rfl) (x_call' rfl rfl cl31) (asc_r O po O.length co (by omega) _ (H80.takes [0] (by decide))) ?_)
                rintro _ wq109 ⟨rfl, H110⟩
                replace H110 : S wq109 [Rw 3 1 po O.length co (fl intL (sortI O)), Old w no] := H80.absorbI (new := [Rw 3 1 po O.length co (fl intL (sortI O))]) [0] H110
                refine b_ret rfl rfl ?_
                refine l_of (s_val (v := .slice po O.length co) (wt0 rfl) rfl rfl (x_assign rfl rfl) ?_)
                refine l_of (s_val (v := .int .i64 0) (wt0 rfl) rfl rfl (x_assign rfl rfl) ?_)
                refine g_nil ?_
                refine g_then ?_
                refine g_weak [(8, .slice po O.length co), (9, .int .i64 0)] ⟨rfl, rfl, trivial⟩ ?_
                refine g_ret ?_
                refine fin_ret [.tmp 8, .tmp 9] [.slice po O.length co, .int .i64 0] rfl ⟨rfl, rfl, trivial⟩ ?_
                have hv : rtErr l slots turn = 0 := rt_0 hnb hnd (by omega)
                have hnn := hat.none (by omega)
                rw [List.take_of_length_le (by omega)] at hnn
                rw [hF] at hnn
                have hR : restV l slots sd turn = [] := rest_none hnd hnn
                have he : sortI O = choL l slots sd turn := by unfold choL; rw [hR, List.append_nil, ← hF]
                have hel : (choL l slots sd turn).length = O.length := by rw [← he, sortI_len]
                rw [cho_z hv, hv, hel, ← he]
                exact ⟨_, _, rfl, H110.takes [0, 1] (by decide)⟩
  · skip
    refine g_cond_t rfl (nt hb3) ?_
    refine g_seq ?_
    refine g_region ?_
    refine l_of (s_val (v := .int .i64 ((rtErr l 0 0))) (wt0 rfl) rfl rfl (x_move rfl rfl) ?_)
    refine l_of (s_val (v := .slice none 0 0) (wt0 rfl) rfl rfl (x_assign rfl rfl) ?_)
    refine l_of (s_val (v := .int .i64 ((rtErr l 0 0))) (wt0 rfl) rfl rfl (x_assign rfl rfl) ?_)
    refine g_nil ?_
    refine g_then ?_
    refine g_ret ?_
    refine g_then_ret ?_
    refine fin_ret [.tmp 8, .tmp 9] [.slice none 0 0, .int .i64 ((rtErr l 0 0))] rfl ⟨rfl, rfl, trivial⟩ ?_
    have hv : rtErr l slots turn = (rtErr l 0 0) := rt_a hb3
    rw [cho_e hv hb3, hv]
    exact ⟨none, 0, rfl, (H2.takes [0] (by decide)).nilFl 3 1 intL⟩
end Go.Proofs.Ythfglkkjkpdkpaa
