import Derived.Test.YthfglkkjkpdkpaaKk
set_option linter.unusedSimpArgs false
set_option linter.unusedVariables false
namespace Go.Proofs.Ythfglkkjkpdkpaa
open Go.RowKit

theorem cl32 : callable Try.prog 32 = true := by kernel_rfl
theorem cl35 : callable Try.prog 35 = true := by kernel_rfl
theorem cl38 : callable Try.prog 38 = true := by kernel_rfl
theorem cl39 : callable Try.prog 39 = true := by kernel_rfl
theorem cl44 : callable Try.prog 44 = true := by kernel_rfl
theorem cl45 : callable Try.prog 45 = true := by kernel_rfl
theorem fo57_1 : foO Try.prog 57 1 = some 1 := by kernel_rfl
theorem fo57_4 : foO Try.prog 57 4 = some 4 := by kernel_rfl
theorem sz4 : szO Try.prog 4 = some 1 := by kernel_rfl
theorem ze22 : zeO Try.prog 22 = some (.slice none 0 0) := by kernel_rfl
theorem ze48 : zeO Try.prog 48 = some (.nilFunc) := by kernel_rfl
theorem ze57 : zeO Try.prog 57 = some (.agg #[.int .i64 0, .bool false, .int .i64 0, .int .i64 0, .bool false, .int .i64 0]) := by kernel_rfl
set_option maxRecDepth 20000 in
set_option maxHeartbeats 4000000 in
set_option maxRecDepth 20000 in
set_option maxHeartbeats 4000000 in
theorem choose_s (l : List Rt) (p : Option Addr) (n c : Nat) (hn2 : n ≤ 30) (hok : ∀ r ∈ l, okR r) (slots : Int) (sd : Bool) (turn : Int)  (w : World) (hr : Reads w p n c 6 (fl rtL l)) : Calls Try.prog 10 #[.slice p n c, .int .i64 slots, .bool sd, .int .i64 turn] w fun e w' => ∃ p1 c1, e = .returned (.tuple #[.slice p1 (choV l slots sd turn).length c1, .int .i64 (rtErr l slots turn)]) ∧ S w' ([Rw 3 1 p1 (choV l slots sd turn).length c1 (fl intL (choV l slots sd turn))] ++ [Old w no]) := by
  have H0 := S.old w
  have hnl := hr.lenL rtE
  have hle1 := srt_len Rv.zero cF ((l.map (toRv sd)).filter q1)
  have hle2 := List.length_filter_le q1 (l.map (toRv sd))
  have hle3 := srt_len Rv.zero (cR turn) ((l.map (toRv sd)).filter (q2 ((firstV l slots sd).map Rv.id)))
  have hle4 := List.length_filter_le (q2 ((firstV l slots sd).map Rv.id)) (l.map (toRv sd))
  have hle5 : (l.map (toRv sd)).length = l.length := List.length_map _
  refine enter 101 Try.func10 rfl rfl rfl ?_
  refine g_weak [(0, .slice p n c), (1, .int .i64 slots), (2, .bool sd), (3, .int .i64 turn)] ⟨rfl, rfl, rfl, rfl, trivial⟩ ?_
  refine g_seq ?_
  refine g_region ?_
  refine l_of (s_box H0 (wt0 rfl) rfl rfl rfl rfl ?_)
  intro g1 wq2 H3
  refine l_of (s_val (v := .slice none 0 0) (wt0 rfl) rfl rfl (x_assign rfl rfl) ?_)
  refine l_of (s_val (v := .int .i64 0) (wt0 rfl) rfl rfl (x_assign rfl rfl) ?_)
  refine g_nil ?_
  refine g_then ?_
  refine g_seq ?_
  refine g_seq ?_
  refine g_region ?_
  refine l_of (s_val (v := .slice p n c) (wt0 rfl) rfl rfl (x_move rfl rfl) ?_)
  refine l_of (s_val (v := .int .i64 ((n : Int))) (wt0 rfl) rfl rfl (x_lenl rfl rfl Try.underlying33) ?_)
  refine l_of (s_val (v := .bool (decide ((200 : Int) < (n : Int)))) (wt0 rfl) rfl rfl (x_bin rfl rfl rfl b_gtr) ?_)
  refine l_of (s_val (v := .bool (decide ((200 : Int) < (n : Int)))) (wt0 rfl) rfl rfl (x_move rfl rfl) ?_)
  by_cases hb4 : (200 : Int) < (n : Int)
  · skip
    refine l_of (s_not (wn1 rfl rfl rfl rfl (decide_eq_true hb4)) rfl rfl ?_)
    refine l_of (s_not (wn1 rfl rfl rfl rfl (decide_eq_true hb4)) rfl rfl ?_)
    refine l_of (s_val (v := .bool true) (wt0 rfl) rfl rfl (x_pick_t rfl rfl (decide_eq_true hb4) rfl) ?_)
    refine g_nil ?_
    refine g_then ?_
    refine g_cond_t rfl rfl ?_
    refine g_seq ?_
    refine g_region ?_
    refine l_of (s_val (v := .slice none 0 0) (wt0 rfl) rfl rfl (x_assign rfl rfl) ?_)
    refine l_of (s_val (v := .int .i64 1) (wt0 rfl) rfl rfl (x_assign rfl rfl) ?_)
    refine g_nil ?_
    refine g_then ?_
    refine g_weak [(8, .slice none 0 0), (9, .int .i64 1)] ⟨rfl, rfl, trivial⟩ ?_
    refine g_ret ?_
    refine g_then_ret ?_
    refine fin_ret [.tmp 8, .tmp 9] [.slice none 0 0, .int .i64 1] rfl ⟨rfl, rfl, trivial⟩ ?_
    have hv : rtErr l slots turn = 1 := rt_1 (by first | (left; omega) | (right; exact rfl))
    rw [cho_e hv (by decide), hv]
    exact ⟨none, 0, rfl, (H3.takes [1] (by decide)).nilFl 3 1 intL⟩
  · skip
    refine l_of (s_val (v := .slice p n c) (wt1 rfl rfl rfl rfl (decide_eq_false hb4)) rfl rfl (x_move rfl rfl) ?_)
    have H5 : S wq2 [(Big []), Ob g1 (.cells #[.int .i64 turn] 3 (0, 0)), Old w no] := H3.addNil
    refine l_of (s_call (wt1 rfl rfl rfl rfl (decide_eq_false hb4)) (x_call' rfl rfl cl32) (contF_t l p n c (by omega) rtBad 33 #[] #[] (Big []) (fun _ => True) bad1_f (fun _ _ => trivial) _ (H5.takes [0] (by decide)) (H5.exReads (k := 2) rfl hr (fun _ _ _ h => h)) (H5.apartOld (i := 2) (k := 0) rfl rfl (by decide) hr (by decide) (fun _ _ _ h => h))) ?_)
    rintro _ wq6 ⟨rfl, H7⟩
    replace H7 : S wq6 [(Big []), Ob g1 (.cells #[.int .i64 turn] 3 (0, 0)), Old w no] := H5.absorbI (new := [(Big [])]) [0] H7
    refine b_ret rfl rfl ?_
    refine l_of (s_val (v := .bool ((l.any rtBad))) (wt0 rfl) rfl rfl (x_pick_f rfl rfl (decide_eq_false hb4) rfl) ?_)
    refine g_nil ?_
    refine g_then ?_
    rcases Bool.eq_false_or_eq_true ((l.any rtBad)) with hb8 | hb8
    · skip
      refine g_cond_t rfl hb8 ?_
      refine g_seq ?_
      refine g_region ?_
      refine l_of (s_val (v := .slice none 0 0) (wt0 rfl) rfl rfl (x_assign rfl rfl) ?_)
      refine l_of (s_val (v := .int .i64 1) (wt0 rfl) rfl rfl (x_assign rfl rfl) ?_)
      refine g_nil ?_
      refine g_then ?_
      refine g_weak [(8, .slice none 0 0), (9, .int .i64 1)] ⟨rfl, rfl, trivial⟩ ?_
      refine g_ret ?_
      refine g_then_ret ?_
      refine fin_ret [.tmp 8, .tmp 9] [.slice none 0 0, .int .i64 1] rfl ⟨rfl, rfl, trivial⟩ ?_
      have hv : rtErr l slots turn = 1 := rt_1 (by first | (left; omega) | (right; exact hb8))
      rw [cho_e hv (by decide), hv]
      exact ⟨none, 0, rfl, (H7.takes [2] (by decide)).nilFl 3 1 intL⟩
    · skip
      refine g_cond_f rfl hb8 ?_
      refine g_skip ?_
      refine g_then ?_
      refine g_seq ?_
      refine g_seq ?_
      refine g_region ?_
      refine l_of (s_val (v := .slice p n c) (wt0 rfl) rfl rfl (x_move rfl rfl) ?_)
      refine l_of (s_val (v := .int .i64 ((n : Int))) (wt0 rfl) rfl rfl (x_lenl rfl rfl Try.underlying33) ?_)
      refine l_of (s_val (v := .int .i64 0) (wt0 rfl) rfl rfl (x_move rfl rfl) ?_)
      refine g_nil ?_
      refine g_then ?_
      refine g_block ?_
      refine g_loop (ι := Nat) (fun i => [(0, .slice p n c), (1, .int .i64 slots), (2, .bool sd), (7, .pointer (some ⟨g1, 0, none⟩)), (26, .slice p n c), (27, .int .i64 ((n : Int))), (28, .int .i64 ((i : Int)))]) (fun i wx => (i ≤ n) ∧ (((l.take i).map Rt.peer).Nodup) ∧ S wx [Ob g1 (.cells #[.int .i64 turn] 3 (0, 0)), Old w no]) (fun i => n - i) (0) ⟨rfl, rfl, rfl, rfl, rfl, rfl, rfl, trivial⟩ ⟨Nat.zero_le _, (by rw [List.take_zero]; exact List.nodup_nil), (H7.takes [1, 2] (by decide))⟩ ?_
      rintro i wq9 ⟨hi, hnd, H10⟩
      replace H10 : S wq9 [Ob g1 (.cells #[.int .i64 turn] 3 (0, 0)), Old w no] := H10
      refine g_weak [(0, .slice p n c), (1, .int .i64 slots), (2, .bool sd), (7, .pointer (some ⟨g1, 0, none⟩)), (26, .slice p n c), (27, .int .i64 ((n : Int))), (28, .int .i64 ((i : Int)))] ⟨rfl, rfl, rfl, rfl, rfl, rfl, rfl, trivial⟩ ?_
      refine g_seq ?_
      refine g_region ?_
      refine l_of (s_val (v := .bool (decide (((i : Int) : Int) < (n : Int)))) (wt0 rfl) rfl rfl (x_bin rfl rfl rfl b_lss) ?_)
      refine g_nil ?_
      refine g_then ?_
      refine g_seq ?_
      by_cases hb11 : ((i : Int) : Int) < (n : Int)
      · skip
        refine g_cond_t rfl (decide_eq_true hb11) ?_
        refine g_skip ?_
        refine g_then ?_
        refine g_seq ?_
        refine g_block ?_
        refine g_seq ?_
        refine g_region ?_
        refine l_of (s_val (v := .int .i64 ((i : Int))) (wt0 rfl) rfl rfl (x_move rfl rfl) ?_)
        refine l_of (s_val (v := .pointer ((p).map fun q => q.add (i * 6))) (wt0 rfl) rfl rfl (x_idxR i (H10.exReads (k := 1) rfl hr (fun _ _ _ h => h)) rfl rfl rfl Try.underlying33 sz57 (by omega)) ?_)
        have hlq := (H10.exReads (k := 1) rfl hr (fun _ _ _ h => h)).lenL rtE
        obtain ⟨x12, hx12⟩ := ex_at (l := l) (j := i) (by omega)
        clear hlq
        refine l_of (s_val (v := .agg #[.int .i64 (x12.peer), .bool x12.wants, .int .i64 (x12.gave), .int .i64 (x12.got), .bool x12.snb, .int .i64 (x12.lt)]) (wt0 rfl) rfl rfl (x_loadRA (vs := rtL x12) i (H10.exReads (k := 1) rfl hr (fun _ _ _ h => h)) (by omega) rfl rfl Try.underlying57 rfl sz57 (by rfl) (rtE.flAt hx12)) ?_)
        refine l_of (s_alloc H10 (wt0 rfl) rfl rfl rfl ze57 ?_)
        intro g13 wq14 H15
        refine l_of (s_val (v := .int .i64 ((i : Int))) (wt0 rfl) rfl rfl (x_assign rfl rfl) ?_)
        refine l_of (s_store H15 0 (wt0 rfl) rfl rfl rfl rfl rfl sz57 rfl rfl (cs' := #[.int .i64 (x12.peer), .bool x12.wants, .int .i64 (x12.gave), .int .i64 (x12.got), .bool x12.snb, .int .i64 (x12.lt)]) rfl ?_)
        intro wq16 H17
        refine g_nil ?_
        refine g_then ?_
        refine g_seq ?_
        refine g_region ?_
        refine l_of (s_val (v := .slice p n c) (wt0 rfl) rfl rfl (x_move rfl rfl) ?_)
        refine l_of (s_val (v := .int .i64 ((i : Int))) (wt0 rfl) rfl rfl (x_move rfl rfl) ?_)
        have hnc := (H17.exReads (k := 2) rfl hr (fun _ _ _ h => h)).2.1
        refine l_of (s_val (v := .slice p i c) (wt0 rfl) rfl rfl (ex_cast (x_sliceH i rfl rfl rfl Try.underlying33 sz57 (by omega)) (by rw [cutP0])) ?_)
        refine l_of (s_val (v := .func (.func 34) #[] #[.pointer (some ⟨g13, 0, none⟩)]) (wt0 rfl) rfl rfl (x_makeFunc rfl rfl rfl) ?_)
        have H18 : S wq16 [(Big [Ob g13 (.cells #[.int .i64 (x12.peer), .bool x12.wants, .int .i64 (x12.gave), .int .i64 (x12.got), .bool x12.snb, .int .i64 (x12.lt)] 57 (0, 0))]), Ob g1 (.cells #[.int .i64 turn] 3 (0, 0)), Old w no] := S.big (L := [Ob g13 (.cells #[.int .i64 (x12.peer), .bool x12.wants, .int .i64 (x12.gave), .int .i64 (x12.got), .bool x12.snb, .int .i64 (x12.lt)] 57 (0, 0))]) (H17.takes [0, 1, 2] (by decide))
        refine l_of (s_call (wt0 rfl) (x_call' rfl rfl cl32) (contF_t (l.take i) p i c (by omega) (fun y : Rt => decide (y.peer = x12.peer)) 34 #[] #[.pointer (some ⟨g13, 0, none⟩)] (Big [Ob g13 (.cells #[.int .i64 (x12.peer), .bool x12.wants, .int .i64 (x12.gave), .int .i64 (x12.got), .bool x12.snb, .int .i64 (x12.lt)] 57 (0, 0))]) (fun _ => True) (dup2_f g13 x12) (fun _ _ => trivial) _ (H18.takes [0] (by decide)) ((H18.exReads (k := 2) rfl hr (fun _ _ _ h => h)).takeL rtE i (by omega)) ((H18.apartOld (i := 2) (k := 0) rfl rfl (by decide) hr (by decide) (fun _ _ _ h => h)).take rtE i (by omega))) ?_)
        rintro _ wq19 ⟨rfl, H20⟩
        replace H20 : S wq19 [(Big [Ob g13 (.cells #[.int .i64 (x12.peer), .bool x12.wants, .int .i64 (x12.gave), .int .i64 (x12.got), .bool x12.snb, .int .i64 (x12.lt)] 57 (0, 0))]), Ob g1 (.cells #[.int .i64 turn] 3 (0, 0)), Old w no] := H18.absorbI (new := [(Big [Ob g13 (.cells #[.int .i64 (x12.peer), .bool x12.wants, .int .i64 (x12.gave), .int .i64 (x12.got), .bool x12.snb, .int .i64 (x12.lt)] 57 (0, 0))])]) [0] H20
        refine b_ret rfl rfl ?_
        refine g_nil ?_
        refine g_then ?_
        rcases Bool.eq_false_or_eq_true (((l.take i).any (fun y : Rt => decide (y.peer = x12.peer)))) with hb21 | hb21
        · skip
          refine g_cond_t rfl hb21 ?_
          refine g_seq ?_
          refine g_region ?_
          refine l_of (s_val (v := .slice none 0 0) (wt0 rfl) rfl rfl (x_assign rfl rfl) ?_)
          refine l_of (s_val (v := .int .i64 6) (wt0 rfl) rfl rfl (x_assign rfl rfl) ?_)
          refine g_nil ?_
          refine g_then ?_
          refine g_weak [(8, .slice none 0 0), (9, .int .i64 6)] ⟨rfl, rfl, trivial⟩ ?_
          refine g_ret ?_
          refine g_in_ret ?_
          refine g_then_ret ?_
          refine g_then_ret ?_
          refine g_in_ret ?_
          refine g_then_ret ?_
          refine fin_ret [.tmp 8, .tmp 9] [.slice none 0 0, .int .i64 6] rfl ⟨rfl, rfl, trivial⟩ ?_
          have hv : rtErr l slots turn = 6 := rt_6 (by rintro (h | h); omega; exact absurd h (by rw [hb8]; decide)) (nodupP_of hx12 (of_decide_eq_true (by rw [← any_peer]; exact hb21)))
          rw [cho_e hv (by decide), hv]
          exact ⟨none, 0, rfl, (H20.takes [2] (by decide)).nilFl 3 1 intL⟩
        · skip
          refine g_cond_f rfl hb21 ?_
          refine g_skip ?_
          refine g_in ?_
          refine g_then ?_
          refine g_region ?_
          refine l_of (s_val (v := .int .i64 (((i + 1 : Nat) : Int))) (wt0 rfl) rfl rfl (x_bin rfl rfl rfl (b_add (by rw [w64 (by omega)]; omega))) ?_)
          refine l_of (s_val (v := .int .i64 (((i + 1 : Nat) : Int))) (wt0 rfl) rfl rfl (x_move rfl rfl) ?_)
          refine g_nil ?_
          refine g_then ?_
          refine g_round (i := (i)) ((i + 1)) ?_ ?_ ?_
          · exact ⟨rfl, rfl, rfl, rfl, rfl, rfl, rfl, trivial⟩
          · exact ⟨by omega, ((nodupP_nxt hx12).2 ⟨hnd, of_decide_eq_false (by rw [← any_peer]; exact hb21)⟩), (H20.takes [1, 2] (by decide))⟩
          · (try dsimp only); omega
      · skip
        refine g_cond_f rfl (decide_eq_false hb11) ?_
        refine g_exit ?_
        refine g_then_exit ?_
        refine g_then_exit ?_
        refine g_in_hit ?_
        refine g_then ?_
        refine g_seq ?_
        refine g_seq ?_
        refine g_region ?_
        refine l_of (s_val (v := .int .i64 slots) (wt0 rfl) rfl rfl (x_move rfl rfl) ?_)
        refine l_of (s_val (v := .bool (decide ((slots : Int) < 0))) (wt0 rfl) rfl rfl (x_bin rfl rfl rfl b_lss) ?_)
        refine l_of (s_val (v := .bool (decide ((slots : Int) < 0))) (wt0 rfl) rfl rfl (x_move rfl rfl) ?_)
        by_cases hb22 : (slots : Int) < 0
        · skip
          refine l_of (s_not (wn1 rfl rfl rfl rfl (decide_eq_true hb22)) rfl rfl ?_)
          refine l_of (s_not (wn1 rfl rfl rfl rfl (decide_eq_true hb22)) rfl rfl ?_)
          refine l_of (s_val (v := .bool true) (wt0 rfl) rfl rfl (x_pick_t rfl rfl (decide_eq_true hb22) rfl) ?_)
          refine l_of (s_val (v := .bool true) (wt0 rfl) rfl rfl (x_move rfl rfl) ?_)
          refine l_of (s_not (wn1 rfl rfl rfl rfl rfl) rfl rfl ?_)
          refine l_of (s_not (wn1 rfl rfl rfl rfl rfl) rfl rfl ?_)
          refine l_of (s_val (v := .bool true) (wt0 rfl) rfl rfl (x_pick_t rfl rfl rfl rfl) ?_)
          refine g_nil ?_
          refine g_then ?_
          refine g_weak [(0, .slice p n c), (1, .int .i64 slots), (2, .bool sd), (7, .pointer (some ⟨g1, 0, none⟩)), (48, .bool true)] ⟨rfl, rfl, rfl, rfl, rfl, trivial⟩ ?_
          refine g_cond_t rfl rfl ?_
          refine g_seq ?_
          refine g_region ?_
          refine l_of (s_val (v := .slice none 0 0) (wt0 rfl) rfl rfl (x_assign rfl rfl) ?_)
          refine l_of (s_val (v := .int .i64 7) (wt0 rfl) rfl rfl (x_assign rfl rfl) ?_)
          refine g_nil ?_
          refine g_then ?_
          refine g_ret ?_
          refine g_then_ret ?_
          refine fin_ret [.tmp 8, .tmp 9] [.slice none 0 0, .int .i64 7] rfl ⟨rfl, rfl, trivial⟩ ?_
          rw [List.take_of_length_le (by omega)] at hnd
          have hv : rtErr l slots turn = 7 := rt_7 (by rintro (h | h); omega; exact absurd h (by rw [hb8]; decide)) hnd (by omega)
          rw [cho_e hv (by decide), hv]
          exact ⟨none, 0, rfl, (H10.takes [1] (by decide)).nilFl 3 1 intL⟩
        · skip
          refine l_of (s_val (v := .int .i64 slots) (wt1 rfl rfl rfl rfl (decide_eq_false hb22)) rfl rfl (x_move rfl rfl) ?_)
          refine l_of (s_val (v := .bool (decide ((100 : Int) < slots))) (wt1 rfl rfl rfl rfl (decide_eq_false hb22)) rfl rfl (x_bin rfl rfl rfl b_gtr) ?_)
          refine l_of (s_val (v := .bool (decide ((100 : Int) < slots))) (wt0 rfl) rfl rfl (x_pick_f rfl rfl (decide_eq_false hb22) rfl) ?_)
          refine l_of (s_val (v := .bool (decide ((100 : Int) < slots))) (wt0 rfl) rfl rfl (x_move rfl rfl) ?_)
          by_cases hb23 : (100 : Int) < slots
          · skip
            refine l_of (s_not (wn1 rfl rfl rfl rfl (decide_eq_true hb23)) rfl rfl ?_)
            refine l_of (s_not (wn1 rfl rfl rfl rfl (decide_eq_true hb23)) rfl rfl ?_)
            refine l_of (s_val (v := .bool true) (wt0 rfl) rfl rfl (x_pick_t rfl rfl (decide_eq_true hb23) rfl) ?_)
            refine g_nil ?_
            refine g_then ?_
            refine g_weak [(0, .slice p n c), (1, .int .i64 slots), (2, .bool sd), (7, .pointer (some ⟨g1, 0, none⟩)), (48, .bool true)] ⟨rfl, rfl, rfl, rfl, rfl, trivial⟩ ?_
            refine g_cond_t rfl rfl ?_
            refine g_seq ?_
            refine g_region ?_
            refine l_of (s_val (v := .slice none 0 0) (wt0 rfl) rfl rfl (x_assign rfl rfl) ?_)
            refine l_of (s_val (v := .int .i64 7) (wt0 rfl) rfl rfl (x_assign rfl rfl) ?_)
            refine g_nil ?_
            refine g_then ?_
            refine g_ret ?_
            refine g_then_ret ?_
            refine fin_ret [.tmp 8, .tmp 9] [.slice none 0 0, .int .i64 7] rfl ⟨rfl, rfl, trivial⟩ ?_
            rw [List.take_of_length_le (by omega)] at hnd
            have hv : rtErr l slots turn = 7 := rt_7 (by rintro (h | h); omega; exact absurd h (by rw [hb8]; decide)) hnd (by omega)
            rw [cho_e hv (by decide), hv]
            exact ⟨none, 0, rfl, (H10.takes [1] (by decide)).nilFl 3 1 intL⟩
          · skip
            refine l_of (s_val (v := .int .i64 turn) (wt1 rfl rfl rfl rfl (decide_eq_false hb23)) rfl rfl (x_load1 H10 0 rfl rfl Try.underlying3 rfl rfl rfl) ?_)
            refine l_of (s_val (v := .bool (decide ((turn : Int) < 0))) (wt1 rfl rfl rfl rfl (decide_eq_false hb23)) rfl rfl (x_bin rfl rfl rfl b_lss) ?_)
            refine l_of (s_val (v := .bool (decide ((turn : Int) < 0))) (wt0 rfl) rfl rfl (x_pick_f rfl rfl (decide_eq_false hb23) rfl) ?_)
            refine g_nil ?_
            refine g_then ?_
            refine g_weak [(0, .slice p n c), (1, .int .i64 slots), (2, .bool sd), (7, .pointer (some ⟨g1, 0, none⟩)), (48, .bool (decide ((turn : Int) < 0)))] ⟨rfl, rfl, rfl, rfl, rfl, trivial⟩ ?_
            by_cases hb24 : (turn : Int) < 0
            · skip
              refine g_cond_t rfl (decide_eq_true hb24) ?_
              refine g_seq ?_
              refine g_region ?_
              refine l_of (s_val (v := .slice none 0 0) (wt0 rfl) rfl rfl (x_assign rfl rfl) ?_)
              refine l_of (s_val (v := .int .i64 7) (wt0 rfl) rfl rfl (x_assign rfl rfl) ?_)
              refine g_nil ?_
              refine g_then ?_
              refine g_ret ?_
              refine g_then_ret ?_
              refine fin_ret [.tmp 8, .tmp 9] [.slice none 0 0, .int .i64 7] rfl ⟨rfl, rfl, trivial⟩ ?_
              rw [List.take_of_length_le (by omega)] at hnd
              have hv : rtErr l slots turn = 7 := rt_7 (by rintro (h | h); omega; exact absurd h (by rw [hb8]; decide)) hnd (by omega)
              rw [cho_e hv (by decide), hv]
              exact ⟨none, 0, rfl, (H10.takes [1] (by decide)).nilFl 3 1 intL⟩
            · skip
              refine g_cond_f rfl (decide_eq_false hb24) ?_
              refine g_skip ?_
              refine g_then ?_
              refine g_seq ?_
              refine g_region ?_
              refine l_of (s_val (v := .slice none 0 0) (wt0 rfl) rfl rfl (x_assign rfl rfl) ?_)
              refine g_nil ?_
              refine g_then ?_
              refine g_seq ?_
              refine g_seq ?_
              refine g_region ?_
              refine l_of (s_val (v := .slice p n c) (wt0 rfl) rfl rfl (x_move rfl rfl) ?_)
              refine l_of (s_val (v := .int .i64 ((n : Int))) (wt0 rfl) rfl rfl (x_lenl rfl rfl Try.underlying33) ?_)
              refine l_of (s_val (v := .int .i64 0) (wt0 rfl) rfl rfl (x_move rfl rfl) ?_)
              refine g_nil ?_
              refine g_then ?_
              refine g_block ?_
              refine g_loop (ι := Nat × Option Addr × Nat × List Rv) (fun (j, pa, ca, A) => [(1, .int .i64 slots), (2, .bool sd), (7, .pointer (some ⟨g1, 0, none⟩)), (12, .slice pa A.length ca), (49, .slice p n c), (50, .int .i64 ((n : Int))), (51, .int .i64 ((j : Int)))]) (fun (j, pa, ca, A) wx => (j ≤ n) ∧ (A = (l.take j).map (toRv sd)) ∧ (A.length = j) ∧ S wx [Rw 30 10 pa A.length ca (fl rvL A), Ob g1 (.cells #[.int .i64 turn] 3 (0, 0)), Old w no]) (fun (j, pa, ca, A) => n - j) (0, none, 0, []) ⟨rfl, rfl, rfl, rfl, rfl, rfl, rfl, trivial⟩ ⟨Nat.zero_le _, (by rw [List.take_zero]; rfl), rfl, ((H10.takes [0, 1] (by decide)).nilFl 30 10 rvL)⟩ ?_
              rintro ⟨j, pa, ca, A⟩ wq25 ⟨hj, hA, hAl, H26⟩
              replace H26 : S wq25 [Rw 30 10 pa A.length ca (fl rvL A), Ob g1 (.cells #[.int .i64 turn] 3 (0, 0)), Old w no] := H26
              refine g_weak [(1, .int .i64 slots), (2, .bool sd), (7, .pointer (some ⟨g1, 0, none⟩)), (12, .slice pa A.length ca), (49, .slice p n c), (50, .int .i64 ((n : Int))), (51, .int .i64 ((j : Int)))] ⟨rfl, rfl, rfl, rfl, rfl, rfl, rfl, trivial⟩ ?_
              refine g_seq ?_
              refine g_region ?_
              refine l_of (s_val (v := .bool (decide (((j : Int) : Int) < (n : Int)))) (wt0 rfl) rfl rfl (x_bin rfl rfl rfl b_lss) ?_)
              refine g_nil ?_
              refine g_then ?_
              refine g_seq ?_
              by_cases hb27 : ((j : Int) : Int) < (n : Int)
              · skip
                refine g_cond_t rfl (decide_eq_true hb27) ?_
                refine g_skip ?_
                refine g_then ?_
                refine g_seq ?_
                refine g_block ?_
                refine g_seq ?_
                refine g_region ?_
                refine l_of (s_val (v := .pointer ((p).map fun q => q.add (j * 6))) (wt0 rfl) rfl rfl (x_idxR j (H26.exReads (k := 2) rfl hr (fun _ _ _ h => h)) rfl rfl rfl Try.underlying33 sz57 (by omega)) ?_)
                have hlq := (H26.exReads (k := 2) rfl hr (fun _ _ _ h => h)).lenL rtE
                obtain ⟨x28, hx28⟩ := ex_at (l := l) (j := j) (by omega)
                clear hlq
                refine l_of (s_val (v := .agg #[.int .i64 (x28.peer), .bool x28.wants, .int .i64 (x28.gave), .int .i64 (x28.got), .bool x28.snb, .int .i64 (x28.lt)]) (wt0 rfl) rfl rfl (x_loadRA (vs := rtL x28) j (H26.exReads (k := 2) rfl hr (fun _ _ _ h => h)) (by omega) rfl rfl Try.underlying57 rfl sz57 (by rfl) (rtE.flAt hx28)) ?_)
                refine l_of (s_alloc H26 (wt0 rfl) rfl rfl rfl ze57 ?_)
                intro g29 wq30 H31
                refine l_of (s_store H31 0 (wt0 rfl) rfl rfl rfl rfl rfl sz57 rfl rfl (cs' := #[.int .i64 (x28.peer), .bool x28.wants, .int .i64 (x28.gave), .int .i64 (x28.got), .bool x28.snb, .int .i64 (x28.lt)]) rfl ?_)
                intro wq32 H33
                refine g_nil ?_
                refine g_then ?_
                refine g_seq ?_
                refine g_region ?_
                refine l_of (s_val (v := .pointer (some ⟨g29, 0, none⟩)) (wt0 rfl) rfl rfl (x_fieldAddr rfl rfl fo57_0 rfl) ?_)
                refine l_of (s_val (v := .int .i64 (x28.peer)) (wt0 rfl) rfl rfl (x_load1 H33 0 rfl rfl Try.underlying3 rfl rfl rfl) ?_)
                refine l_of (s_val (v := .pointer (some ⟨g29, 1, none⟩)) (wt0 rfl) rfl rfl (x_fieldAddr rfl rfl fo57_1 rfl) ?_)
                refine l_of (s_val (v := .bool x28.wants) (wt0 rfl) rfl rfl (x_load1 H33 0 rfl rfl Try.underlying4 rfl rfl rfl) ?_)
                refine l_of (s_val (v := .pointer (some ⟨g29, 2, none⟩)) (wt0 rfl) rfl rfl (x_fieldAddr rfl rfl fo57_2 rfl) ?_)
                refine l_of (s_val (v := .int .i64 (x28.gave)) (wt0 rfl) rfl rfl (x_load1 H33 0 rfl rfl Try.underlying3 rfl rfl rfl) ?_)
                refine l_of (s_val (v := .pointer (some ⟨g29, 5, none⟩)) (wt0 rfl) rfl rfl (x_fieldAddr rfl rfl fo57_5 rfl) ?_)
                refine l_of (s_val (v := .int .i64 (x28.lt)) (wt0 rfl) rfl rfl (x_load1 H33 0 rfl rfl Try.underlying3 rfl rfl rfl) ?_)
                refine l_of (s_val (v := .pointer (some ⟨g29, 4, none⟩)) (wt0 rfl) rfl rfl (x_fieldAddr rfl rfl fo57_4 rfl) ?_)
                refine l_of (s_val (v := .bool x28.snb) (wt0 rfl) rfl rfl (x_load1 H33 0 rfl rfl Try.underlying4 rfl rfl rfl) ?_)
                refine l_of (s_val (v := .agg #[.int .i64 (x28.peer), .bool x28.wants, .bool false, .int .i64 (x28.gave), .int .i64 0, .int .i64 (x28.lt), .int .i64 0, .bool x28.snb, .bool false, .bool false]) (wt0 rfl) rfl rfl (x_build (vs := [.int .i64 (x28.peer), .bool x28.wants, .int .i64 (x28.gave), .int .i64 (x28.lt), .bool x28.snb]) rfl rfl (cells := #[.int .i64 (x28.peer), .bool x28.wants, .bool false, .int .i64 (x28.gave), .int .i64 0, .int .i64 (x28.lt), .int .i64 0, .bool x28.snb, .bool false, .bool false]) (by kernel_rfl)) ?_)
                refine l_of (s_alloc H33 (wt0 rfl) rfl rfl rfl ze30 ?_)
                intro g34 wq35 H36
                refine l_of (s_store H36 0 (wt0 rfl) rfl rfl rfl rfl rfl sz30 rfl rfl (cs' := #[.int .i64 (x28.peer), .bool x28.wants, .bool false, .int .i64 (x28.gave), .int .i64 0, .int .i64 (x28.lt), .int .i64 0, .bool x28.snb, .bool false, .bool false]) rfl ?_)
                intro wq37 H38
                refine g_nil ?_
                refine g_then ?_
                refine g_weak [(1, .int .i64 slots), (2, .bool sd), (7, .pointer (some ⟨g1, 0, none⟩)), (12, .slice pa A.length ca), (14, .pointer (some ⟨g29, 0, none⟩)), (15, .pointer (some ⟨g34, 0, none⟩)), (49, .slice p n c), (50, .int .i64 ((n : Int))), (51, .int .i64 ((j : Int)))] ⟨rfl, rfl, rfl, rfl, rfl, rfl, rfl, rfl, rfl, trivial⟩ ?_
                refine g_seq ?_
                refine g_seq ?_
                refine g_region ?_
                refine l_of (s_val (v := .bool sd) (wt0 rfl) rfl rfl (x_move rfl rfl) ?_)
                refine g_nil ?_
                refine g_then ?_
                rcases Bool.eq_false_or_eq_true (sd) with hb39 | hb39
                · skip
                  refine g_cond_t rfl hb39 ?_
                  refine g_region ?_
                  refine l_of (s_val (v := .pointer (some ⟨g29, 3, none⟩)) (wt0 rfl) rfl rfl (x_fieldAddr rfl rfl fo57_3 rfl) ?_)
                  refine l_of (s_val (v := .int .i64 (x28.got)) (wt0 rfl) rfl rfl (x_load1 H38 1 rfl rfl Try.underlying3 rfl rfl rfl) ?_)
                  refine l_of (s_val (v := .pointer (some ⟨g34, 3, none⟩)) (wt0 rfl) rfl rfl (x_fieldAddr rfl rfl fo30_3 rfl) ?_)
                  refine l_of (s_store H38 0 (wt0 rfl) rfl rfl rfl rfl rfl sz3 rfl rfl (cs' := #[.int .i64 (x28.peer), .bool x28.wants, .bool false, .int .i64 (x28.got), .int .i64 0, .int .i64 (x28.lt), .int .i64 0, .bool x28.snb, .bool false, .bool false]) rfl ?_)
                  intro wq40 H41
                  refine l_of (s_val (v := .pointer (some ⟨g34, 7, none⟩)) (wt0 rfl) rfl rfl (x_fieldAddr rfl rfl fo30_7 rfl) ?_)
                  refine l_of (s_store H41 0 (wt0 rfl) rfl rfl rfl rfl rfl sz4 rfl rfl (cs' := #[.int .i64 (x28.peer), .bool x28.wants, .bool false, .int .i64 (x28.got), .int .i64 0, .int .i64 (x28.lt), .int .i64 0, .bool false, .bool false, .bool false]) rfl ?_)
                  intro wq42 H43
                  refine g_nil ?_
                  refine g_then ?_
                  refine g_region ?_
                  refine l_of (s_val (v := .slice pa A.length ca) (wt0 rfl) rfl rfl (x_move rfl rfl) ?_)
                  refine l_of (s_val (v := .agg #[.int .i64 (x28.peer), .bool x28.wants, .bool false, .int .i64 (x28.got), .int .i64 0, .int .i64 (x28.lt), .int .i64 0, .bool false, .bool false, .bool false]) (wt0 rfl) rfl rfl (x_loadA H43 0 rfl rfl Try.underlying30 rfl sz30 rfl rfl rfl) ?_)
                  refine l_of (s_buildSlice H43 (wt0 rfl) rfl rfl rfl (vs := [.agg #[.int .i64 (x28.peer), .bool x28.wants, .bool false, .int .i64 (x28.got), .int .i64 0, .int .i64 (x28.lt), .int .i64 0, .bool false, .bool false, .bool false]]) rfl Try.underlying22 sz30 ze30 rfl rfl (cells := #[.int .i64 (x28.peer), .bool x28.wants, .bool false, .int .i64 (x28.got), .int .i64 0, .int .i64 (x28.lt), .int .i64 0, .bool false, .bool false, .bool false]) (by kernel_rfl) ?_)
                  intro g44 wq45 H46
                  have hln51a := (H46.rwReads (k := 3) rfl).lenL rvE
                  have hln51 : (A ++ [(⟨x28.peer, x28.wants, false, x28.got, 0, x28.lt, 0, false, false, false⟩ : Rv)]).length = A.length + 1 := by simp only [List.length_append, List.length_cons, List.length_nil] <;> omega
                  refine l_of (s_appBn (m := 1) (l := A) (l2 := [(⟨x28.peer, x28.wants, false, x28.got, 0, x28.lt, 0, false, false, false⟩ : Rv)]) rvE H46 3 (j0 := 0) rfl rfl ⟨rfl, Nat.le_refl _⟩ (wt0 rfl) rfl rfl rfl rfl rfl rfl Try.underlying22 inf30 rfl (by decide) (by omega) ?_)
                  intro p47 c48 wq49 H50
                  replace H50 : S wq49 [Ob g44 (.cells #[.int .i64 (x28.peer), .bool x28.wants, .bool false, .int .i64 (x28.got), .int .i64 0, .int .i64 (x28.lt), .int .i64 0, .bool false, .bool false, .bool false] 30 (0, 0)), Ob g34 (.cells #[.int .i64 (x28.peer), .bool x28.wants, .bool false, .int .i64 (x28.got), .int .i64 0, .int .i64 (x28.lt), .int .i64 0, .bool false, .bool false, .bool false] 30 (0, 0)), Ob g29 (.cells #[.int .i64 (x28.peer), .bool x28.wants, .int .i64 (x28.gave), .int .i64 (x28.got), .bool x28.snb, .int .i64 (x28.lt)] 57 (0, 0)), Rw 30 10 p47 ((A ++ [(⟨x28.peer, x28.wants, false, x28.got, 0, x28.lt, 0, false, false, false⟩ : Rv)]).length) c48 (fl rvL (A ++ [(⟨x28.peer, x28.wants, false, x28.got, 0, x28.lt, 0, false, false, false⟩ : Rv)])), Ob g1 (.cells #[.int .i64 turn] 3 (0, 0)), Old w no] := H50
                  refine l_of (s_val (v := .slice p47 ((A ++ [(⟨x28.peer, x28.wants, false, x28.got, 0, x28.lt, 0, false, false, false⟩ : Rv)]).length) c48) (wt0 rfl) rfl rfl (x_assign rfl rfl) ?_)
                  refine g_nil ?_
                  refine g_in ?_
                  refine g_then ?_
                  refine g_region ?_
                  refine l_of (s_val (v := .int .i64 (((j + 1 : Nat) : Int))) (wt0 rfl) rfl rfl (x_bin rfl rfl rfl (b_add (by rw [w64 (by omega)]; omega))) ?_)
                  refine l_of (s_val (v := .int .i64 (((j + 1 : Nat) : Int))) (wt0 rfl) rfl rfl (x_move rfl rfl) ?_)
                  refine g_nil ?_
                  refine g_then ?_
                  refine g_round (i := (j, pa, ca, A)) ((j + 1), p47, c48, (A ++ [(⟨x28.peer, x28.wants, false, x28.got, 0, x28.lt, 0, false, false, false⟩ : Rv)])) ?_ ?_ ?_
                  · exact ⟨rfl, rfl, rfl, rfl, rfl, rfl, rfl, trivial⟩
                  · exact ⟨by omega, (by rw [hA, take_snocL hx28, List.map_append]; simp [toRv, hb39]), (by simp only [List.length_append, List.length_cons, List.length_nil]; omega), (H50.takes [3, 4, 5] (by decide))⟩
                  · (try dsimp only); omega
                · skip
                  refine g_cond_f rfl hb39 ?_
                  refine g_skip ?_
                  refine g_then ?_
                  refine g_region ?_
                  refine l_of (s_val (v := .slice pa A.length ca) (wt0 rfl) rfl rfl (x_move rfl rfl) ?_)
                  refine l_of (s_val (v := .agg #[.int .i64 (x28.peer), .bool x28.wants, .bool false, .int .i64 (x28.gave), .int .i64 0, .int .i64 (x28.lt), .int .i64 0, .bool x28.snb, .bool false, .bool false]) (wt0 rfl) rfl rfl (x_loadA H38 0 rfl rfl Try.underlying30 rfl sz30 rfl rfl rfl) ?_)
                  refine l_of (s_buildSlice H38 (wt0 rfl) rfl rfl rfl (vs := [.agg #[.int .i64 (x28.peer), .bool x28.wants, .bool false, .int .i64 (x28.gave), .int .i64 0, .int .i64 (x28.lt), .int .i64 0, .bool x28.snb, .bool false, .bool false]]) rfl Try.underlying22 sz30 ze30 rfl rfl (cells := #[.int .i64 (x28.peer), .bool x28.wants, .bool false, .int .i64 (x28.gave), .int .i64 0, .int .i64 (x28.lt), .int .i64 0, .bool x28.snb, .bool false, .bool false]) (by kernel_rfl) ?_)
                  intro g52 wq53 H54
                  have hln59a := (H54.rwReads (k := 3) rfl).lenL rvE
                  have hln59 : (A ++ [(⟨x28.peer, x28.wants, false, x28.gave, 0, x28.lt, 0, x28.snb, false, false⟩ : Rv)]).length = A.length + 1 := by simp only [List.length_append, List.length_cons, List.length_nil] <;> omega
                  refine l_of (s_appBn (m := 1) (l := A) (l2 := [(⟨x28.peer, x28.wants, false, x28.gave, 0, x28.lt, 0, x28.snb, false, false⟩ : Rv)]) rvE H54 3 (j0 := 0) rfl rfl ⟨rfl, Nat.le_refl _⟩ (wt0 rfl) rfl rfl rfl rfl rfl rfl Try.underlying22 inf30 rfl (by decide) (by omega) ?_)
                  intro p55 c56 wq57 H58
                  replace H58 : S wq57 [Ob g52 (.cells #[.int .i64 (x28.peer), .bool x28.wants, .bool false, .int .i64 (x28.gave), .int .i64 0, .int .i64 (x28.lt), .int .i64 0, .bool x28.snb, .bool false, .bool false] 30 (0, 0)), Ob g34 (.cells #[.int .i64 (x28.peer), .bool x28.wants, .bool false, .int .i64 (x28.gave), .int .i64 0, .int .i64 (x28.lt), .int .i64 0, .bool x28.snb, .bool false, .bool false] 30 (0, 0)), Ob g29 (.cells #[.int .i64 (x28.peer), .bool x28.wants, .int .i64 (x28.gave), .int .i64 (x28.got), .bool x28.snb, .int .i64 (x28.lt)] 57 (0, 0)), Rw 30 10 p55 ((A ++ [(⟨x28.peer, x28.wants, false, x28.gave, 0, x28.lt, 0, x28.snb, false, false⟩ : Rv)]).length) c56 (fl rvL (A ++ [(⟨x28.peer, x28.wants, false, x28.gave, 0, x28.lt, 0, x28.snb, false, false⟩ : Rv)])), Ob g1 (.cells #[.int .i64 turn] 3 (0, 0)), Old w no] := H58
                  refine l_of (s_val (v := .slice p55 ((A ++ [(⟨x28.peer, x28.wants, false, x28.gave, 0, x28.lt, 0, x28.snb, false, false⟩ : Rv)]).length) c56) (wt0 rfl) rfl rfl (x_assign rfl rfl) ?_)
                  refine g_nil ?_
                  refine g_in ?_
                  refine g_then ?_
                  refine g_region ?_
                  refine l_of (s_val (v := .int .i64 (((j + 1 : Nat) : Int))) (wt0 rfl) rfl rfl (x_bin rfl rfl rfl (b_add (by rw [w64 (by omega)]; omega))) ?_)
                  refine l_of (s_val (v := .int .i64 (((j + 1 : Nat) : Int))) (wt0 rfl) rfl rfl (x_move rfl rfl) ?_)
                  refine g_nil ?_
                  refine g_then ?_
                  refine g_round (i := (j, pa, ca, A)) ((j + 1), p55, c56, (A ++ [(⟨x28.peer, x28.wants, false, x28.gave, 0, x28.lt, 0, x28.snb, false, false⟩ : Rv)])) ?_ ?_ ?_
                  · exact ⟨rfl, rfl, rfl, rfl, rfl, rfl, rfl, trivial⟩
                  · exact ⟨by omega, (by rw [hA, take_snocL hx28, List.map_append]; simp [toRv, hb39]), (by simp only [List.length_append, List.length_cons, List.length_nil]; omega), (H58.takes [3, 4, 5] (by decide))⟩
                  · (try dsimp only); omega
              · skip
                refine g_cond_f rfl (decide_eq_false hb27) ?_
                refine g_exit ?_
                refine g_then_exit ?_
                refine g_then_exit ?_
                refine g_in_hit ?_
                refine g_then ?_
                refine g_seq ?_
                refine g_region ?_
                refine l_of (s_val (v := .slice pa A.length ca) (wt0 rfl) rfl rfl (x_move rfl rfl) ?_)
                refine l_of (s_call (wt0 rfl) (x_call' rfl rfl cl39) (more_s 40 #[] #[] _) ?_)
                rintro _ wq61 ⟨bl60, rfl, H62⟩
                replace H62 : S wq61 [Ob bl60 (.cells #[.func (.func 40) #[] #[]] 50 (0, 0)), Rw 30 10 pa A.length ca (fl rvL A), Ob g1 (.cells #[.int .i64 turn] 3 (0, 0)), Old w no] := H26.absorb (new := [Ob bl60 (.cells #[.func (.func 40) #[] #[]] 50 (0, 0))]) H62
                refine b_ret rfl rfl ?_
                refine l_of (s_call (wt0 rfl) (x_call' rfl rfl cl25) (less_s 41 #[] #[] _) ?_)
                rintro _ wq64 ⟨bl63, rfl, H65⟩
                replace H65 : S wq64 [Ob bl63 (.cells #[.func (.func 41) #[] #[]] 50 (0, 0)), Ob bl60 (.cells #[.func (.func 40) #[] #[]] 50 (0, 0)), Rw 30 10 pa A.length ca (fl rvL A), Ob g1 (.cells #[.int .i64 turn] 3 (0, 0)), Old w no] := H62.absorb (new := [Ob bl63 (.cells #[.func (.func 41) #[] #[]] 50 (0, 0))]) H65
                refine b_ret rfl rfl ?_
                refine l_of (s_call (wt0 rfl) (x_call' rfl rfl cl25) (less_s 26 #[] #[] _) ?_)
                rintro _ wq67 ⟨bl66, rfl, H68⟩
                replace H68 : S wq67 [Ob bl66 (.cells #[.func (.func 26) #[] #[]] 50 (0, 0)), Ob bl63 (.cells #[.func (.func 41) #[] #[]] 50 (0, 0)), Ob bl60 (.cells #[.func (.func 40) #[] #[]] 50 (0, 0)), Rw 30 10 pa A.length ca (fl rvL A), Ob g1 (.cells #[.int .i64 turn] 3 (0, 0)), Old w no] := H65.absorb (new := [Ob bl66 (.cells #[.func (.func 26) #[] #[]] 50 (0, 0))]) H68
                refine b_ret rfl rfl ?_
                refine l_of (s_buildSlice H68 (wt0 rfl) rfl rfl rfl (vs := [.func (.func 69) #[] #[.pointer (some ⟨bl60, 0, none⟩)], .func (.func 64) #[] #[.pointer (some ⟨bl63, 0, none⟩)], .func (.func 64) #[] #[.pointer (some ⟨bl66, 0, none⟩)]]) rfl Try.underlying78 sz48 ze48 rfl rfl (cells := #[.func (.func 69) #[] #[.pointer (some ⟨bl60, 0, none⟩)], .func (.func 64) #[] #[.pointer (some ⟨bl63, 0, none⟩)], .func (.func 64) #[] #[.pointer (some ⟨bl66, 0, none⟩)]]) (by kernel_rfl) ?_)
                intro g69 wq70 H71
                refine l_of (s_call (wt0 rfl) (x_call' rfl rfl cl38) (by_s (some ⟨g69, 0, none⟩) 3 3 _) ?_)
                rintro _ wq73 ⟨bl72, rfl, H74⟩
                replace H74 : S wq73 [Ob bl72 (.cells #[.slice (some ⟨g69, 0, none⟩) (3) (3)] 78 (0, 0)), Ob g69 (.cells #[.func (.func 69) #[] #[.pointer (some ⟨bl60, 0, none⟩)], .func (.func 64) #[] #[.pointer (some ⟨bl63, 0, none⟩)], .func (.func 64) #[] #[.pointer (some ⟨bl66, 0, none⟩)]] 48 (0, 0)), Ob bl66 (.cells #[.func (.func 26) #[] #[]] 50 (0, 0)), Ob bl63 (.cells #[.func (.func 41) #[] #[]] 50 (0, 0)), Ob bl60 (.cells #[.func (.func 40) #[] #[]] 50 (0, 0)), Rw 30 10 pa A.length ca (fl rvL A), Ob g1 (.cells #[.int .i64 turn] 3 (0, 0)), Old w no] := H71.absorb (new := [Ob bl72 (.cells #[.slice (some ⟨g69, 0, none⟩) (3) (3)] 78 (0, 0))]) H74
                refine b_ret rfl rfl ?_
                rw [List.take_of_length_le (by omega)] at hnd hA
                have hbf := hb8
                have hDl := toRv_D hok hbf sd
                subst hA
                have H75 : S wq73 [(Big []), Ob bl72 (.cells #[.slice (some ⟨g69, 0, none⟩) (3) (3)] 78 (0, 0)), Ob g69 (.cells #[.func (.func 69) #[] #[.pointer (some ⟨bl60, 0, none⟩)], .func (.func 64) #[] #[.pointer (some ⟨bl63, 0, none⟩)], .func (.func 64) #[] #[.pointer (some ⟨bl66, 0, none⟩)]] 48 (0, 0)), Ob bl66 (.cells #[.func (.func 26) #[] #[]] 50 (0, 0)), Ob bl63 (.cells #[.func (.func 41) #[] #[]] 50 (0, 0)), Ob bl60 (.cells #[.func (.func 40) #[] #[]] 50 (0, 0)), Rw 30 10 pa ((l.map (toRv sd)).length) ca (fl rvL (l.map (toRv sd))), Ob g1 (.cells #[.int .i64 turn] 3 (0, 0)), Old w no] := H74.addNil
                have H76 : S wq73 [(Big [Ob bl60 (.cells #[.func (.func 40) #[] #[]] 50 (0, 0)), (Big [])]), Ob bl72 (.cells #[.slice (some ⟨g69, 0, none⟩) (3) (3)] 78 (0, 0)), Ob g69 (.cells #[.func (.func 69) #[] #[.pointer (some ⟨bl60, 0, none⟩)], .func (.func 64) #[] #[.pointer (some ⟨bl63, 0, none⟩)], .func (.func 64) #[] #[.pointer (some ⟨bl66, 0, none⟩)]] 48 (0, 0)), Ob bl66 (.cells #[.func (.func 26) #[] #[]] 50 (0, 0)), Ob bl63 (.cells #[.func (.func 41) #[] #[]] 50 (0, 0)), Rw 30 10 pa ((l.map (toRv sd)).length) ca (fl rvL (l.map (toRv sd))), Ob g1 (.cells #[.int .i64 turn] 3 (0, 0)), Old w no] := S.big (L := [Ob bl60 (.cells #[.func (.func 40) #[] #[]] 50 (0, 0)), (Big [])]) (H75.takes [5, 0, 1, 2, 3, 4, 6, 7, 8] (by decide))
                have H77 : S wq73 [(Big []), (Big [Ob bl60 (.cells #[.func (.func 40) #[] #[]] 50 (0, 0)), (Big [])]), Ob bl72 (.cells #[.slice (some ⟨g69, 0, none⟩) (3) (3)] 78 (0, 0)), Ob g69 (.cells #[.func (.func 69) #[] #[.pointer (some ⟨bl60, 0, none⟩)], .func (.func 64) #[] #[.pointer (some ⟨bl63, 0, none⟩)], .func (.func 64) #[] #[.pointer (some ⟨bl66, 0, none⟩)]] 48 (0, 0)), Ob bl66 (.cells #[.func (.func 26) #[] #[]] 50 (0, 0)), Ob bl63 (.cells #[.func (.func 41) #[] #[]] 50 (0, 0)), Rw 30 10 pa ((l.map (toRv sd)).length) ca (fl rvL (l.map (toRv sd))), Ob g1 (.cells #[.int .i64 turn] 3 (0, 0)), Old w no] := H76.addNil
                have H78 : S wq73 [(Big [Ob bl63 (.cells #[.func (.func 41) #[] #[]] 50 (0, 0)), (Big [])]), (Big [Ob bl60 (.cells #[.func (.func 40) #[] #[]] 50 (0, 0)), (Big [])]), Ob bl72 (.cells #[.slice (some ⟨g69, 0, none⟩) (3) (3)] 78 (0, 0)), Ob g69 (.cells #[.func (.func 69) #[] #[.pointer (some ⟨bl60, 0, none⟩)], .func (.func 64) #[] #[.pointer (some ⟨bl63, 0, none⟩)], .func (.func 64) #[] #[.pointer (some ⟨bl66, 0, none⟩)]] 48 (0, 0)), Ob bl66 (.cells #[.func (.func 26) #[] #[]] 50 (0, 0)), Rw 30 10 pa ((l.map (toRv sd)).length) ca (fl rvL (l.map (toRv sd))), Ob g1 (.cells #[.int .i64 turn] 3 (0, 0)), Old w no] := S.big (L := [Ob bl63 (.cells #[.func (.func 41) #[] #[]] 50 (0, 0)), (Big [])]) (H77.takes [5, 0, 1, 2, 3, 4, 6, 7, 8] (by decide))
                have H79 : S wq73 [(Big []), (Big [Ob bl63 (.cells #[.func (.func 41) #[] #[]] 50 (0, 0)), (Big [])]), (Big [Ob bl60 (.cells #[.func (.func 40) #[] #[]] 50 (0, 0)), (Big [])]), Ob bl72 (.cells #[.slice (some ⟨g69, 0, none⟩) (3) (3)] 78 (0, 0)), Ob g69 (.cells #[.func (.func 69) #[] #[.pointer (some ⟨bl60, 0, none⟩)], .func (.func 64) #[] #[.pointer (some ⟨bl63, 0, none⟩)], .func (.func 64) #[] #[.pointer (some ⟨bl66, 0, none⟩)]] 48 (0, 0)), Ob bl66 (.cells #[.func (.func 26) #[] #[]] 50 (0, 0)), Rw 30 10 pa ((l.map (toRv sd)).length) ca (fl rvL (l.map (toRv sd))), Ob g1 (.cells #[.int .i64 turn] 3 (0, 0)), Old w no] := H78.addNil
                have H80 : S wq73 [(Big [Ob bl66 (.cells #[.func (.func 26) #[] #[]] 50 (0, 0)), (Big [])]), (Big [Ob bl63 (.cells #[.func (.func 41) #[] #[]] 50 (0, 0)), (Big [])]), (Big [Ob bl60 (.cells #[.func (.func 40) #[] #[]] 50 (0, 0)), (Big [])]), Ob bl72 (.cells #[.slice (some ⟨g69, 0, none⟩) (3) (3)] 78 (0, 0)), Ob g69 (.cells #[.func (.func 69) #[] #[.pointer (some ⟨bl60, 0, none⟩)], .func (.func 64) #[] #[.pointer (some ⟨bl63, 0, none⟩)], .func (.func 64) #[] #[.pointer (some ⟨bl66, 0, none⟩)]] 48 (0, 0)), Rw 30 10 pa ((l.map (toRv sd)).length) ca (fl rvL (l.map (toRv sd))), Ob g1 (.cells #[.int .i64 turn] 3 (0, 0)), Old w no] := S.big (L := [Ob bl66 (.cells #[.func (.func 26) #[] #[]] 50 (0, 0)), (Big [])]) (H79.takes [5, 0, 1, 2, 3, 4, 6, 7, 8] (by decide))
                have H81 : S wq73 [(Big [Ob bl72 (.cells #[.slice (some ⟨g69, 0, none⟩) (3) (3)] 78 (0, 0)), Ob g69 (.cells #[.func (.func 69) #[] #[.pointer (some ⟨bl60, 0, none⟩)], .func (.func 64) #[] #[.pointer (some ⟨bl63, 0, none⟩)], .func (.func 64) #[] #[.pointer (some ⟨bl66, 0, none⟩)]] 48 (0, 0)), (Big [Ob bl60 (.cells #[.func (.func 40) #[] #[]] 50 (0, 0)), (Big [])]), (Big [Ob bl63 (.cells #[.func (.func 41) #[] #[]] 50 (0, 0)), (Big [])]), (Big [Ob bl66 (.cells #[.func (.func 26) #[] #[]] 50 (0, 0)), (Big [])])]), Rw 30 10 pa ((l.map (toRv sd)).length) ca (fl rvL (l.map (toRv sd))), Ob g1 (.cells #[.int .i64 turn] 3 (0, 0)), Old w no] := S.big (L := [Ob bl72 (.cells #[.slice (some ⟨g69, 0, none⟩) (3) (3)] 78 (0, 0)), Ob g69 (.cells #[.func (.func 69) #[] #[.pointer (some ⟨bl60, 0, none⟩)], .func (.func 64) #[] #[.pointer (some ⟨bl63, 0, none⟩)], .func (.func 64) #[] #[.pointer (some ⟨bl66, 0, none⟩)]] 48 (0, 0)), (Big [Ob bl60 (.cells #[.func (.func 40) #[] #[]] 50 (0, 0)), (Big [])]), (Big [Ob bl63 (.cells #[.func (.func 41) #[] #[]] 50 (0, 0)), (Big [])]), (Big [Ob bl66 (.cells #[.func (.func 26) #[] #[]] 50 (0, 0)), (Big [])])]) (H80.takes [3, 4, 2, 1, 0, 5, 6, 7] (by decide))
                have H82 : S wq73 [(Big []), (Big [Ob bl72 (.cells #[.slice (some ⟨g69, 0, none⟩) (3) (3)] 78 (0, 0)), Ob g69 (.cells #[.func (.func 69) #[] #[.pointer (some ⟨bl60, 0, none⟩)], .func (.func 64) #[] #[.pointer (some ⟨bl63, 0, none⟩)], .func (.func 64) #[] #[.pointer (some ⟨bl66, 0, none⟩)]] 48 (0, 0)), (Big [Ob bl60 (.cells #[.func (.func 40) #[] #[]] 50 (0, 0)), (Big [])]), (Big [Ob bl63 (.cells #[.func (.func 41) #[] #[]] 50 (0, 0)), (Big [])]), (Big [Ob bl66 (.cells #[.func (.func 26) #[] #[]] 50 (0, 0)), (Big [])])]), Rw 30 10 pa ((l.map (toRv sd)).length) ca (fl rvL (l.map (toRv sd))), Ob g1 (.cells #[.int .i64 turn] 3 (0, 0)), Old w no] := H81.addNil
                refine l_of (s_call (wt0 rfl) (x_call' rfl rfl cl23) (which_s (l.map (toRv sd)) pa ((l.map (toRv sd)).length) ca (by rw [List.length_map]; omega) 36 #[] #[] (Big []) q1 (fun _ => True) cho3_f 68 #[] #[.pointer (some ⟨bl72, 0, none⟩)] (Big [Ob bl72 (.cells #[.slice (some ⟨g69, 0, none⟩) (3) (3)] 78 (0, 0)), Ob g69 (.cells #[.func (.func 69) #[] #[.pointer (some ⟨bl60, 0, none⟩)], .func (.func 64) #[] #[.pointer (some ⟨bl63, 0, none⟩)], .func (.func 64) #[] #[.pointer (some ⟨bl66, 0, none⟩)]] 48 (0, 0)), (Big [Ob bl60 (.cells #[.func (.func 40) #[] #[]] 50 (0, 0)), (Big [])]), (Big [Ob bl63 (.cells #[.func (.func 41) #[] #[]] 50 (0, 0)), (Big [])]), (Big [Ob bl66 (.cells #[.func (.func 26) #[] #[]] 50 (0, 0)), (Big [])])]) cF DR (by1_3f bl72 g69 DR 69 #[] #[.pointer (some ⟨bl60, 0, none⟩)] (Big [Ob bl60 (.cells #[.func (.func 40) #[] #[]] 50 (0, 0)), (Big [])]) (fun x y : Rv => Rv.frm y - Rv.frm x) (more1_f bl60 40 #[] #[] (Big []) Rv.frm DR (byFrom_f DR) (fun x y h1 h2 => by unfold DR at h1 h2; omega)) 64 #[] #[.pointer (some ⟨bl63, 0, none⟩)] (Big [Ob bl63 (.cells #[.func (.func 41) #[] #[]] 50 (0, 0)), (Big [])]) (fun x y : Rv => Rv.lt x - Rv.lt y) (less1_f bl63 41 #[] #[] (Big []) Rv.lt DR (byLet_f DR) (fun x y h1 h2 => by unfold DR at h1 h2; omega)) 64 #[] #[.pointer (some ⟨bl66, 0, none⟩)] (Big [Ob bl66 (.cells #[.func (.func 26) #[] #[]] 50 (0, 0)), (Big [])]) (fun x y : Rv => Rv.id x - Rv.id y) (less1_f bl66 26 #[] #[] (Big []) Rv.id DR (byID_f DR) (fun x y h1 h2 => by unfold DR at h1 h2; omega))) (fun _ _ => trivial) hDl _ (H82.takes [0, 1] (by decide)) (H82.staysRw (i := 2) (k1 := 0) (k2 := 1) rfl rfl rfl (by decide) (by decide))) ?_)
                rintro _ wq83 ⟨pr1, cr1, rfl, H84⟩
                replace H84 : S wq83 [Rw 30 10 pr1 ((srt Rv.zero cF ((l.map (toRv sd)).filter q1)).length) cr1 (fl rvL (srt Rv.zero cF ((l.map (toRv sd)).filter q1))), (Big []), (Big [Ob bl72 (.cells #[.slice (some ⟨g69, 0, none⟩) (3) (3)] 78 (0, 0)), Ob g69 (.cells #[.func (.func 69) #[] #[.pointer (some ⟨bl60, 0, none⟩)], .func (.func 64) #[] #[.pointer (some ⟨bl63, 0, none⟩)], .func (.func 64) #[] #[.pointer (some ⟨bl66, 0, none⟩)]] 48 (0, 0)), (Big [Ob bl60 (.cells #[.func (.func 40) #[] #[]] 50 (0, 0)), (Big [])]), (Big [Ob bl63 (.cells #[.func (.func 41) #[] #[]] 50 (0, 0)), (Big [])]), (Big [Ob bl66 (.cells #[.func (.func 26) #[] #[]] 50 (0, 0)), (Big [])])]), Rw 30 10 pa ((l.map (toRv sd)).length) ca (fl rvL (l.map (toRv sd))), Ob g1 (.cells #[.int .i64 turn] 3 (0, 0)), Old w no] := H82.absorbI (new := [Rw 30 10 pr1 ((srt Rv.zero cF ((l.map (toRv sd)).filter q1)).length) cr1 (fl rvL (srt Rv.zero cF ((l.map (toRv sd)).filter q1))), (Big []), (Big [Ob bl72 (.cells #[.slice (some ⟨g69, 0, none⟩) (3) (3)] 78 (0, 0)), Ob g69 (.cells #[.func (.func 69) #[] #[.pointer (some ⟨bl60, 0, none⟩)], .func (.func 64) #[] #[.pointer (some ⟨bl63, 0, none⟩)], .func (.func 64) #[] #[.pointer (some ⟨bl66, 0, none⟩)]] 48 (0, 0)), (Big [Ob bl60 (.cells #[.func (.func 40) #[] #[]] 50 (0, 0)), (Big [])]), (Big [Ob bl63 (.cells #[.func (.func 41) #[] #[]] 50 (0, 0)), (Big [])]), (Big [Ob bl66 (.cells #[.func (.func 26) #[] #[]] 50 (0, 0)), (Big [])])])]) [0, 1] H84
                refine b_ret rfl rfl ?_
                refine l_of (s_val (v := .int .i64 slots) (wt0 rfl) rfl rfl (x_move rfl rfl) ?_)
                refine l_of (s_call (wt0 rfl) (x_call' rfl rfl cl35) (front_s (srt Rv.zero cF ((l.map (toRv sd)).filter q1)) pr1 ((srt Rv.zero cF ((l.map (toRv sd)).filter q1)).length) cr1 (by omega) slots _ (H84.rwReads (k := 0) rfl)) ?_)
                rintro _ wq85 ⟨rfl, H86⟩
                replace H86 : S wq85 [Rw 30 10 pr1 ((srt Rv.zero cF ((l.map (toRv sd)).filter q1)).length) cr1 (fl rvL (srt Rv.zero cF ((l.map (toRv sd)).filter q1))), (Big []), (Big [Ob bl72 (.cells #[.slice (some ⟨g69, 0, none⟩) (3) (3)] 78 (0, 0)), Ob g69 (.cells #[.func (.func 69) #[] #[.pointer (some ⟨bl60, 0, none⟩)], .func (.func 64) #[] #[.pointer (some ⟨bl63, 0, none⟩)], .func (.func 64) #[] #[.pointer (some ⟨bl66, 0, none⟩)]] 48 (0, 0)), (Big [Ob bl60 (.cells #[.func (.func 40) #[] #[]] 50 (0, 0)), (Big [])]), (Big [Ob bl63 (.cells #[.func (.func 41) #[] #[]] 50 (0, 0)), (Big [])]), (Big [Ob bl66 (.cells #[.func (.func 26) #[] #[]] 50 (0, 0)), (Big [])])]), Rw 30 10 pa ((l.map (toRv sd)).length) ca (fl rvL (l.map (toRv sd))), Ob g1 (.cells #[.int .i64 turn] 3 (0, 0)), Old w no] := H84.absorb (new := []) H86
                refine b_ret rfl rfl ?_
                refine l_of (s_alloc H86 (wt0 rfl) rfl rfl rfl ze22 ?_)
                intro g87 wq88 H89
                refine l_of (s_store H89 0 (wt0 rfl) rfl rfl rfl rfl rfl sz22 rfl rfl (cs' := #[.slice pr1 (min (srt Rv.zero cF ((l.map (toRv sd)).filter q1)).length slots.toNat) cr1]) rfl ?_)
                intro wq90 H91
                refine g_nil ?_
                refine g_then ?_
                refine g_weak [(7, .pointer (some ⟨g1, 0, none⟩)), (12, .slice pa (l.map (toRv sd)).length ca), (16, .pointer (some ⟨g87, 0, none⟩))] ⟨rfl, rfl, rfl, trivial⟩ ?_
                refine g_seq ?_
                refine g_region ?_
                refine l_of (s_val (v := .func (.func 42) #[] #[.pointer (some ⟨g1, 0, none⟩)]) (wt0 rfl) rfl rfl (x_makeFunc rfl rfl rfl) ?_)
                refine l_of (s_val (v := .func (.func 42) #[] #[.pointer (some ⟨g1, 0, none⟩)]) (wt0 rfl) rfl rfl (x_assign rfl rfl) ?_)
                refine g_nil ?_
                refine g_then ?_
                refine g_seq ?_
                refine g_region ?_
                refine l_of (s_val (v := .slice pa (l.map (toRv sd)).length ca) (wt0 rfl) rfl rfl (x_move rfl rfl) ?_)
                refine l_of (s_val (v := .func (.func 43) #[] #[.pointer (some ⟨g87, 0, none⟩)]) (wt0 rfl) rfl rfl (x_makeFunc rfl rfl rfl) ?_)
                refine l_of (s_call (wt0 rfl) (x_call' rfl rfl cl25) (less_s 41 #[] #[] _) ?_)
                rintro _ wq93 ⟨bl92, rfl, H94⟩
                replace H94 : S wq93 [Ob bl92 (.cells #[.func (.func 41) #[] #[]] 50 (0, 0)), Ob g87 (.cells #[.slice pr1 (min (srt Rv.zero cF ((l.map (toRv sd)).filter q1)).length slots.toNat) cr1] 22 (0, 0)), Rw 30 10 pr1 ((srt Rv.zero cF ((l.map (toRv sd)).filter q1)).length) cr1 (fl rvL (srt Rv.zero cF ((l.map (toRv sd)).filter q1))), (Big []), (Big [Ob bl72 (.cells #[.slice (some ⟨g69, 0, none⟩) (3) (3)] 78 (0, 0)), Ob g69 (.cells #[.func (.func 69) #[] #[.pointer (some ⟨bl60, 0, none⟩)], .func (.func 64) #[] #[.pointer (some ⟨bl63, 0, none⟩)], .func (.func 64) #[] #[.pointer (some ⟨bl66, 0, none⟩)]] 48 (0, 0)), (Big [Ob bl60 (.cells #[.func (.func 40) #[] #[]] 50 (0, 0)), (Big [])]), (Big [Ob bl63 (.cells #[.func (.func 41) #[] #[]] 50 (0, 0)), (Big [])]), (Big [Ob bl66 (.cells #[.func (.func 26) #[] #[]] 50 (0, 0)), (Big [])])]), Rw 30 10 pa ((l.map (toRv sd)).length) ca (fl rvL (l.map (toRv sd))), Ob g1 (.cells #[.int .i64 turn] 3 (0, 0)), Old w no] := H91.absorb (new := [Ob bl92 (.cells #[.func (.func 41) #[] #[]] 50 (0, 0))]) H94
                refine b_ret rfl rfl ?_
                refine l_of (s_val (v := .func (.func 42) #[] #[.pointer (some ⟨g1, 0, none⟩)]) (wt0 rfl) rfl rfl (x_move rfl rfl) ?_)
                refine l_of (s_call (wt0 rfl) (x_call' rfl rfl cl44) (ahead_s 42 #[] #[.pointer (some ⟨g1, 0, none⟩)] _) ?_)
                rintro _ wq97 ⟨bl95, bl96, rfl, H98⟩
                replace H98 : S wq97 [Ob bl95 (.cells #[.func (.func 70) #[] #[.pointer (some ⟨bl96, 0, none⟩)]] 50 (0, 0)), Ob bl96 (.cells #[.func (.func 42) #[] #[.pointer (some ⟨g1, 0, none⟩)]] 45 (0, 0)), Ob bl92 (.cells #[.func (.func 41) #[] #[]] 50 (0, 0)), Ob g87 (.cells #[.slice pr1 (min (srt Rv.zero cF ((l.map (toRv sd)).filter q1)).length slots.toNat) cr1] 22 (0, 0)), Rw 30 10 pr1 ((srt Rv.zero cF ((l.map (toRv sd)).filter q1)).length) cr1 (fl rvL (srt Rv.zero cF ((l.map (toRv sd)).filter q1))), (Big []), (Big [Ob bl72 (.cells #[.slice (some ⟨g69, 0, none⟩) (3) (3)] 78 (0, 0)), Ob g69 (.cells #[.func (.func 69) #[] #[.pointer (some ⟨bl60, 0, none⟩)], .func (.func 64) #[] #[.pointer (some ⟨bl63, 0, none⟩)], .func (.func 64) #[] #[.pointer (some ⟨bl66, 0, none⟩)]] 48 (0, 0)), (Big [Ob bl60 (.cells #[.func (.func 40) #[] #[]] 50 (0, 0)), (Big [])]), (Big [Ob bl63 (.cells #[.func (.func 41) #[] #[]] 50 (0, 0)), (Big [])]), (Big [Ob bl66 (.cells #[.func (.func 26) #[] #[]] 50 (0, 0)), (Big [])])]), Rw 30 10 pa ((l.map (toRv sd)).length) ca (fl rvL (l.map (toRv sd))), Ob g1 (.cells #[.int .i64 turn] 3 (0, 0)), Old w no] := H94.absorb (new := [Ob bl95 (.cells #[.func (.func 70) #[] #[.pointer (some ⟨bl96, 0, none⟩)]] 50 (0, 0)), Ob bl96 (.cells #[.func (.func 42) #[] #[.pointer (some ⟨g1, 0, none⟩)]] 45 (0, 0))]) H98
                refine b_ret rfl rfl ?_
                refine l_of (s_call (wt0 rfl) (x_call' rfl rfl cl25) (less_s 26 #[] #[] _) ?_)
                rintro _ wq100 ⟨bl99, rfl, H101⟩
                replace H101 : S wq100 [Ob bl99 (.cells #[.func (.func 26) #[] #[]] 50 (0, 0)), Ob bl95 (.cells #[.func (.func 70) #[] #[.pointer (some ⟨bl96, 0, none⟩)]] 50 (0, 0)), Ob bl96 (.cells #[.func (.func 42) #[] #[.pointer (some ⟨g1, 0, none⟩)]] 45 (0, 0)), Ob bl92 (.cells #[.func (.func 41) #[] #[]] 50 (0, 0)), Ob g87 (.cells #[.slice pr1 (min (srt Rv.zero cF ((l.map (toRv sd)).filter q1)).length slots.toNat) cr1] 22 (0, 0)), Rw 30 10 pr1 ((srt Rv.zero cF ((l.map (toRv sd)).filter q1)).length) cr1 (fl rvL (srt Rv.zero cF ((l.map (toRv sd)).filter q1))), (Big []), (Big [Ob bl72 (.cells #[.slice (some ⟨g69, 0, none⟩) (3) (3)] 78 (0, 0)), Ob g69 (.cells #[.func (.func 69) #[] #[.pointer (some ⟨bl60, 0, none⟩)], .func (.func 64) #[] #[.pointer (some ⟨bl63, 0, none⟩)], .func (.func 64) #[] #[.pointer (some ⟨bl66, 0, none⟩)]] 48 (0, 0)), (Big [Ob bl60 (.cells #[.func (.func 40) #[] #[]] 50 (0, 0)), (Big [])]), (Big [Ob bl63 (.cells #[.func (.func 41) #[] #[]] 50 (0, 0)), (Big [])]), (Big [Ob bl66 (.cells #[.func (.func 26) #[] #[]] 50 (0, 0)), (Big [])])]), Rw 30 10 pa ((l.map (toRv sd)).length) ca (fl rvL (l.map (toRv sd))), Ob g1 (.cells #[.int .i64 turn] 3 (0, 0)), Old w no] := H98.absorb (new := [Ob bl99 (.cells #[.func (.func 26) #[] #[]] 50 (0, 0))]) H101
                refine b_ret rfl rfl ?_
                refine l_of (s_buildSlice H101 (wt0 rfl) rfl rfl rfl (vs := [.func (.func 64) #[] #[.pointer (some ⟨bl92, 0, none⟩)], .func (.func 64) #[] #[.pointer (some ⟨bl95, 0, none⟩)], .func (.func 64) #[] #[.pointer (some ⟨bl99, 0, none⟩)]]) rfl Try.underlying78 sz48 ze48 rfl rfl (cells := #[.func (.func 64) #[] #[.pointer (some ⟨bl92, 0, none⟩)], .func (.func 64) #[] #[.pointer (some ⟨bl95, 0, none⟩)], .func (.func 64) #[] #[.pointer (some ⟨bl99, 0, none⟩)]]) (by kernel_rfl) ?_)
                intro g102 wq103 H104
                refine l_of (s_call (wt0 rfl) (x_call' rfl rfl cl38) (by_s (some ⟨g102, 0, none⟩) 3 3 _) ?_)
                rintro _ wq106 ⟨bl105, rfl, H107⟩
                replace H107 : S wq106 [Ob bl105 (.cells #[.slice (some ⟨g102, 0, none⟩) (3) (3)] 78 (0, 0)), Ob g102 (.cells #[.func (.func 64) #[] #[.pointer (some ⟨bl92, 0, none⟩)], .func (.func 64) #[] #[.pointer (some ⟨bl95, 0, none⟩)], .func (.func 64) #[] #[.pointer (some ⟨bl99, 0, none⟩)]] 48 (0, 0)), Ob bl99 (.cells #[.func (.func 26) #[] #[]] 50 (0, 0)), Ob bl95 (.cells #[.func (.func 70) #[] #[.pointer (some ⟨bl96, 0, none⟩)]] 50 (0, 0)), Ob bl96 (.cells #[.func (.func 42) #[] #[.pointer (some ⟨g1, 0, none⟩)]] 45 (0, 0)), Ob bl92 (.cells #[.func (.func 41) #[] #[]] 50 (0, 0)), Ob g87 (.cells #[.slice pr1 (min (srt Rv.zero cF ((l.map (toRv sd)).filter q1)).length slots.toNat) cr1] 22 (0, 0)), Rw 30 10 pr1 ((srt Rv.zero cF ((l.map (toRv sd)).filter q1)).length) cr1 (fl rvL (srt Rv.zero cF ((l.map (toRv sd)).filter q1))), (Big []), (Big [Ob bl72 (.cells #[.slice (some ⟨g69, 0, none⟩) (3) (3)] 78 (0, 0)), Ob g69 (.cells #[.func (.func 69) #[] #[.pointer (some ⟨bl60, 0, none⟩)], .func (.func 64) #[] #[.pointer (some ⟨bl63, 0, none⟩)], .func (.func 64) #[] #[.pointer (some ⟨bl66, 0, none⟩)]] 48 (0, 0)), (Big [Ob bl60 (.cells #[.func (.func 40) #[] #[]] 50 (0, 0)), (Big [])]), (Big [Ob bl63 (.cells #[.func (.func 41) #[] #[]] 50 (0, 0)), (Big [])]), (Big [Ob bl66 (.cells #[.func (.func 26) #[] #[]] 50 (0, 0)), (Big [])])]), Rw 30 10 pa ((l.map (toRv sd)).length) ca (fl rvL (l.map (toRv sd))), Ob g1 (.cells #[.int .i64 turn] 3 (0, 0)), Old w no] := H104.absorb (new := [Ob bl105 (.cells #[.slice (some ⟨g102, 0, none⟩) (3) (3)] 78 (0, 0))]) H107
                refine b_ret rfl rfl ?_
                have H108 : S wq106 [(Big []), Ob bl105 (.cells #[.slice (some ⟨g102, 0, none⟩) (3) (3)] 78 (0, 0)), Ob g102 (.cells #[.func (.func 64) #[] #[.pointer (some ⟨bl92, 0, none⟩)], .func (.func 64) #[] #[.pointer (some ⟨bl95, 0, none⟩)], .func (.func 64) #[] #[.pointer (some ⟨bl99, 0, none⟩)]] 48 (0, 0)), Ob bl99 (.cells #[.func (.func 26) #[] #[]] 50 (0, 0)), Ob bl95 (.cells #[.func (.func 70) #[] #[.pointer (some ⟨bl96, 0, none⟩)]] 50 (0, 0)), Ob bl96 (.cells #[.func (.func 42) #[] #[.pointer (some ⟨g1, 0, none⟩)]] 45 (0, 0)), Ob bl92 (.cells #[.func (.func 41) #[] #[]] 50 (0, 0)), Ob g87 (.cells #[.slice pr1 (min (srt Rv.zero cF ((l.map (toRv sd)).filter q1)).length slots.toNat) cr1] 22 (0, 0)), Rw 30 10 pr1 ((srt Rv.zero cF ((l.map (toRv sd)).filter q1)).length) cr1 (fl rvL (srt Rv.zero cF ((l.map (toRv sd)).filter q1))), (Big []), (Big [Ob bl72 (.cells #[.slice (some ⟨g69, 0, none⟩) (3) (3)] 78 (0, 0)), Ob g69 (.cells #[.func (.func 69) #[] #[.pointer (some ⟨bl60, 0, none⟩)], .func (.func 64) #[] #[.pointer (some ⟨bl63, 0, none⟩)], .func (.func 64) #[] #[.pointer (some ⟨bl66, 0, none⟩)]] 48 (0, 0)), (Big [Ob bl60 (.cells #[.func (.func 40) #[] #[]] 50 (0, 0)), (Big [])]), (Big [Ob bl63 (.cells #[.func (.func 41) #[] #[]] 50 (0, 0)), (Big [])]), (Big [Ob bl66 (.cells #[.func (.func 26) #[] #[]] 50 (0, 0)), (Big [])])]), Rw 30 10 pa ((l.map (toRv sd)).length) ca (fl rvL (l.map (toRv sd))), Ob g1 (.cells #[.int .i64 turn] 3 (0, 0)), Old w no] := H107.addNil
                have H109 : S wq106 [(Big [Ob bl92 (.cells #[.func (.func 41) #[] #[]] 50 (0, 0)), (Big [])]), Ob bl105 (.cells #[.slice (some ⟨g102, 0, none⟩) (3) (3)] 78 (0, 0)), Ob g102 (.cells #[.func (.func 64) #[] #[.pointer (some ⟨bl92, 0, none⟩)], .func (.func 64) #[] #[.pointer (some ⟨bl95, 0, none⟩)], .func (.func 64) #[] #[.pointer (some ⟨bl99, 0, none⟩)]] 48 (0, 0)), Ob bl99 (.cells #[.func (.func 26) #[] #[]] 50 (0, 0)), Ob bl95 (.cells #[.func (.func 70) #[] #[.pointer (some ⟨bl96, 0, none⟩)]] 50 (0, 0)), Ob bl96 (.cells #[.func (.func 42) #[] #[.pointer (some ⟨g1, 0, none⟩)]] 45 (0, 0)), Ob g87 (.cells #[.slice pr1 (min (srt Rv.zero cF ((l.map (toRv sd)).filter q1)).length slots.toNat) cr1] 22 (0, 0)), Rw 30 10 pr1 ((srt Rv.zero cF ((l.map (toRv sd)).filter q1)).length) cr1 (fl rvL (srt Rv.zero cF ((l.map (toRv sd)).filter q1))), (Big []), (Big [Ob bl72 (.cells #[.slice (some ⟨g69, 0, none⟩) (3) (3)] 78 (0, 0)), Ob g69 (.cells #[.func (.func 69) #[] #[.pointer (some ⟨bl60, 0, none⟩)], .func (.func 64) #[] #[.pointer (some ⟨bl63, 0, none⟩)], .func (.func 64) #[] #[.pointer (some ⟨bl66, 0, none⟩)]] 48 (0, 0)), (Big [Ob bl60 (.cells #[.func (.func 40) #[] #[]] 50 (0, 0)), (Big [])]), (Big [Ob bl63 (.cells #[.func (.func 41) #[] #[]] 50 (0, 0)), (Big [])]), (Big [Ob bl66 (.cells #[.func (.func 26) #[] #[]] 50 (0, 0)), (Big [])])]), Rw 30 10 pa ((l.map (toRv sd)).length) ca (fl rvL (l.map (toRv sd))), Ob g1 (.cells #[.int .i64 turn] 3 (0, 0)), Old w no] := S.big (L := [Ob bl92 (.cells #[.func (.func 41) #[] #[]] 50 (0, 0)), (Big [])]) (H108.takes [6, 0, 1, 2, 3, 4, 5, 7, 8, 9, 10, 11, 12, 13] (by decide))
                have H110 : S wq106 [(Big [Ob g1 (.cells #[.int .i64 turn] 3 (0, 0))]), (Big [Ob bl92 (.cells #[.func (.func 41) #[] #[]] 50 (0, 0)), (Big [])]), Ob bl105 (.cells #[.slice (some ⟨g102, 0, none⟩) (3) (3)] 78 (0, 0)), Ob g102 (.cells #[.func (.func 64) #[] #[.pointer (some ⟨bl92, 0, none⟩)], .func (.func 64) #[] #[.pointer (some ⟨bl95, 0, none⟩)], .func (.func 64) #[] #[.pointer (some ⟨bl99, 0, none⟩)]] 48 (0, 0)), Ob bl99 (.cells #[.func (.func 26) #[] #[]] 50 (0, 0)), Ob bl95 (.cells #[.func (.func 70) #[] #[.pointer (some ⟨bl96, 0, none⟩)]] 50 (0, 0)), Ob bl96 (.cells #[.func (.func 42) #[] #[.pointer (some ⟨g1, 0, none⟩)]] 45 (0, 0)), Ob g87 (.cells #[.slice pr1 (min (srt Rv.zero cF ((l.map (toRv sd)).filter q1)).length slots.toNat) cr1] 22 (0, 0)), Rw 30 10 pr1 ((srt Rv.zero cF ((l.map (toRv sd)).filter q1)).length) cr1 (fl rvL (srt Rv.zero cF ((l.map (toRv sd)).filter q1))), (Big []), (Big [Ob bl72 (.cells #[.slice (some ⟨g69, 0, none⟩) (3) (3)] 78 (0, 0)), Ob g69 (.cells #[.func (.func 69) #[] #[.pointer (some ⟨bl60, 0, none⟩)], .func (.func 64) #[] #[.pointer (some ⟨bl63, 0, none⟩)], .func (.func 64) #[] #[.pointer (some ⟨bl66, 0, none⟩)]] 48 (0, 0)), (Big [Ob bl60 (.cells #[.func (.func 40) #[] #[]] 50 (0, 0)), (Big [])]), (Big [Ob bl63 (.cells #[.func (.func 41) #[] #[]] 50 (0, 0)), (Big [])]), (Big [Ob bl66 (.cells #[.func (.func 26) #[] #[]] 50 (0, 0)), (Big [])])]), Rw 30 10 pa ((l.map (toRv sd)).length) ca (fl rvL (l.map (toRv sd))), Old w no] := S.big (L := [Ob g1 (.cells #[.int .i64 turn] 3 (0, 0))]) (H109.takes [11, 0, 1, 2, 3, 4, 5, 6, 7, 8, 9, 10, 12] (by decide))
                have H111 : S wq106 [(Big [Ob bl96 (.cells #[.func (.func 42) #[] #[.pointer (some ⟨g1, 0, none⟩)]] 45 (0, 0)), (Big [Ob g1 (.cells #[.int .i64 turn] 3 (0, 0))])]), (Big [Ob bl92 (.cells #[.func (.func 41) #[] #[]] 50 (0, 0)), (Big [])]), Ob bl105 (.cells #[.slice (some ⟨g102, 0, none⟩) (3) (3)] 78 (0, 0)), Ob g102 (.cells #[.func (.func 64) #[] #[.pointer (some ⟨bl92, 0, none⟩)], .func (.func 64) #[] #[.pointer (some ⟨bl95, 0, none⟩)], .func (.func 64) #[] #[.pointer (some ⟨bl99, 0, none⟩)]] 48 (0, 0)), Ob bl99 (.cells #[.func (.func 26) #[] #[]] 50 (0, 0)), Ob bl95 (.cells #[.func (.func 70) #[] #[.pointer (some ⟨bl96, 0, none⟩)]] 50 (0, 0)), Ob g87 (.cells #[.slice pr1 (min (srt Rv.zero cF ((l.map (toRv sd)).filter q1)).length slots.toNat) cr1] 22 (0, 0)), Rw 30 10 pr1 ((srt Rv.zero cF ((l.map (toRv sd)).filter q1)).length) cr1 (fl rvL (srt Rv.zero cF ((l.map (toRv sd)).filter q1))), (Big []), (Big [Ob bl72 (.cells #[.slice (some ⟨g69, 0, none⟩) (3) (3)] 78 (0, 0)), Ob g69 (.cells #[.func (.func 69) #[] #[.pointer (some ⟨bl60, 0, none⟩)], .func (.func 64) #[] #[.pointer (some ⟨bl63, 0, none⟩)], .func (.func 64) #[] #[.pointer (some ⟨bl66, 0, none⟩)]] 48 (0, 0)), (Big [Ob bl60 (.cells #[.func (.func 40) #[] #[]] 50 (0, 0)), (Big [])]), (Big [Ob bl63 (.cells #[.func (.func 41) #[] #[]] 50 (0, 0)), (Big [])]), (Big [Ob bl66 (.cells #[.func (.func 26) #[] #[]] 50 (0, 0)), (Big [])])]), Rw 30 10 pa ((l.map (toRv sd)).length) ca (fl rvL (l.map (toRv sd))), Old w no] := S.big (L := [Ob bl96 (.cells #[.func (.func 42) #[] #[.pointer (some ⟨g1, 0, none⟩)]] 45 (0, 0)), (Big [Ob g1 (.cells #[.int .i64 turn] 3 (0, 0))])]) (H110.takes [6, 0, 1, 2, 3, 4, 5, 7, 8, 9, 10, 11, 12] (by decide))
                have H112 : S wq106 [(Big [Ob bl95 (.cells #[.func (.func 70) #[] #[.pointer (some ⟨bl96, 0, none⟩)]] 50 (0, 0)), (Big [Ob bl96 (.cells #[.func (.func 42) #[] #[.pointer (some ⟨g1, 0, none⟩)]] 45 (0, 0)), (Big [Ob g1 (.cells #[.int .i64 turn] 3 (0, 0))])])]), (Big [Ob bl92 (.cells #[.func (.func 41) #[] #[]] 50 (0, 0)), (Big [])]), Ob bl105 (.cells #[.slice (some ⟨g102, 0, none⟩) (3) (3)] 78 (0, 0)), Ob g102 (.cells #[.func (.func 64) #[] #[.pointer (some ⟨bl92, 0, none⟩)], .func (.func 64) #[] #[.pointer (some ⟨bl95, 0, none⟩)], .func (.func 64) #[] #[.pointer (some ⟨bl99, 0, none⟩)]] 48 (0, 0)), Ob bl99 (.cells #[.func (.func 26) #[] #[]] 50 (0, 0)), Ob g87 (.cells #[.slice pr1 (min (srt Rv.zero cF ((l.map (toRv sd)).filter q1)).length slots.toNat) cr1] 22 (0, 0)), Rw 30 10 pr1 ((srt Rv.zero cF ((l.map (toRv sd)).filter q1)).length) cr1 (fl rvL (srt Rv.zero cF ((l.map (toRv sd)).filter q1))), (Big []), (Big [Ob bl72 (.cells #[.slice (some ⟨g69, 0, none⟩) (3) (3)] 78 (0, 0)), Ob g69 (.cells #[.func (.func 69) #[] #[.pointer (some ⟨bl60, 0, none⟩)], .func (.func 64) #[] #[.pointer (some ⟨bl63, 0, none⟩)], .func (.func 64) #[] #[.pointer (some ⟨bl66, 0, none⟩)]] 48 (0, 0)), (Big [Ob bl60 (.cells #[.func (.func 40) #[] #[]] 50 (0, 0)), (Big [])]), (Big [Ob bl63 (.cells #[.func (.func 41) #[] #[]] 50 (0, 0)), (Big [])]), (Big [Ob bl66 (.cells #[.func (.func 26) #[] #[]] 50 (0, 0)), (Big [])])]), Rw 30 10 pa ((l.map (toRv sd)).length) ca (fl rvL (l.map (toRv sd))), Old w no] := S.big (L := [Ob bl95 (.cells #[.func (.func 70) #[] #[.pointer (some ⟨bl96, 0, none⟩)]] 50 (0, 0)), (Big [Ob bl96 (.cells #[.func (.func 42) #[] #[.pointer (some ⟨g1, 0, none⟩)]] 45 (0, 0)), (Big [Ob g1 (.cells #[.int .i64 turn] 3 (0, 0))])])]) (H111.takes [5, 0, 1, 2, 3, 4, 6, 7, 8, 9, 10, 11] (by decide))
                have H113 : S wq106 [(Big []), (Big [Ob bl95 (.cells #[.func (.func 70) #[] #[.pointer (some ⟨bl96, 0, none⟩)]] 50 (0, 0)), (Big [Ob bl96 (.cells #[.func (.func 42) #[] #[.pointer (some ⟨g1, 0, none⟩)]] 45 (0, 0)), (Big [Ob g1 (.cells #[.int .i64 turn] 3 (0, 0))])])]), (Big [Ob bl92 (.cells #[.func (.func 41) #[] #[]] 50 (0, 0)), (Big [])]), Ob bl105 (.cells #[.slice (some ⟨g102, 0, none⟩) (3) (3)] 78 (0, 0)), Ob g102 (.cells #[.func (.func 64) #[] #[.pointer (some ⟨bl92, 0, none⟩)], .func (.func 64) #[] #[.pointer (some ⟨bl95, 0, none⟩)], .func (.func 64) #[] #[.pointer (some ⟨bl99, 0, none⟩)]] 48 (0, 0)), Ob bl99 (.cells #[.func (.func 26) #[] #[]] 50 (0, 0)), Ob g87 (.cells #[.slice pr1 (min (srt Rv.zero cF ((l.map (toRv sd)).filter q1)).length slots.toNat) cr1] 22 (0, 0)), Rw 30 10 pr1 ((srt Rv.zero cF ((l.map (toRv sd)).filter q1)).length) cr1 (fl rvL (srt Rv.zero cF ((l.map (toRv sd)).filter q1))), (Big []), (Big [Ob bl72 (.cells #[.slice (some ⟨g69, 0, none⟩) (3) (3)] 78 (0, 0)), Ob g69 (.cells #[.func (.func 69) #[] #[.pointer (some ⟨bl60, 0, none⟩)], .func (.func 64) #[] #[.pointer (some ⟨bl63, 0, none⟩)], .func (.func 64) #[] #[.pointer (some ⟨bl66, 0, none⟩)]] 48 (0, 0)), (Big [Ob bl60 (.cells #[.func (.func 40) #[] #[]] 50 (0, 0)), (Big [])]), (Big [Ob bl63 (.cells #[.func (.func 41) #[] #[]] 50 (0, 0)), (Big [])]), (Big [Ob bl66 (.cells #[.func (.func 26) #[] #[]] 50 (0, 0)), (Big [])])]), Rw 30 10 pa ((l.map (toRv sd)).length) ca (fl rvL (l.map (toRv sd))), Old w no] := H112.addNil
                have H114 : S wq106 [(Big [Ob bl99 (.cells #[.func (.func 26) #[] #[]] 50 (0, 0)), (Big [])]), (Big [Ob bl95 (.cells #[.func (.func 70) #[] #[.pointer (some ⟨bl96, 0, none⟩)]] 50 (0, 0)), (Big [Ob bl96 (.cells #[.func (.func 42) #[] #[.pointer (some ⟨g1, 0, none⟩)]] 45 (0, 0)), (Big [Ob g1 (.cells #[.int .i64 turn] 3 (0, 0))])])]), (Big [Ob bl92 (.cells #[.func (.func 41) #[] #[]] 50 (0, 0)), (Big [])]), Ob bl105 (.cells #[.slice (some ⟨g102, 0, none⟩) (3) (3)] 78 (0, 0)), Ob g102 (.cells #[.func (.func 64) #[] #[.pointer (some ⟨bl92, 0, none⟩)], .func (.func 64) #[] #[.pointer (some ⟨bl95, 0, none⟩)], .func (.func 64) #[] #[.pointer (some ⟨bl99, 0, none⟩)]] 48 (0, 0)), Ob g87 (.cells #[.slice pr1 (min (srt Rv.zero cF ((l.map (toRv sd)).filter q1)).length slots.toNat) cr1] 22 (0, 0)), Rw 30 10 pr1 ((srt Rv.zero cF ((l.map (toRv sd)).filter q1)).length) cr1 (fl rvL (srt Rv.zero cF ((l.map (toRv sd)).filter q1))), (Big []), (Big [Ob bl72 (.cells #[.slice (some ⟨g69, 0, none⟩) (3) (3)] 78 (0, 0)), Ob g69 (.cells #[.func (.func 69) #[] #[.pointer (some ⟨bl60, 0, none⟩)], .func (.func 64) #[] #[.pointer (some ⟨bl63, 0, none⟩)], .func (.func 64) #[] #[.pointer (some ⟨bl66, 0, none⟩)]] 48 (0, 0)), (Big [Ob bl60 (.cells #[.func (.func 40) #[] #[]] 50 (0, 0)), (Big [])]), (Big [Ob bl63 (.cells #[.func (.func 41) #[] #[]] 50 (0, 0)), (Big [])]), (Big [Ob bl66 (.cells #[.func (.func 26) #[] #[]] 50 (0, 0)), (Big [])])]), Rw 30 10 pa ((l.map (toRv sd)).length) ca (fl rvL (l.map (toRv sd))), Old w no] := S.big (L := [Ob bl99 (.cells #[.func (.func 26) #[] #[]] 50 (0, 0)), (Big [])]) (H113.takes [5, 0, 1, 2, 3, 4, 6, 7, 8, 9, 10, 11] (by decide))
                have H115 : S wq106 [(Big [Ob bl105 (.cells #[.slice (some ⟨g102, 0, none⟩) (3) (3)] 78 (0, 0)), Ob g102 (.cells #[.func (.func 64) #[] #[.pointer (some ⟨bl92, 0, none⟩)], .func (.func 64) #[] #[.pointer (some ⟨bl95, 0, none⟩)], .func (.func 64) #[] #[.pointer (some ⟨bl99, 0, none⟩)]] 48 (0, 0)), (Big [Ob bl92 (.cells #[.func (.func 41) #[] #[]] 50 (0, 0)), (Big [])]), (Big [Ob bl95 (.cells #[.func (.func 70) #[] #[.pointer (some ⟨bl96, 0, none⟩)]] 50 (0, 0)), (Big [Ob bl96 (.cells #[.func (.func 42) #[] #[.pointer (some ⟨g1, 0, none⟩)]] 45 (0, 0)), (Big [Ob g1 (.cells #[.int .i64 turn] 3 (0, 0))])])]), (Big [Ob bl99 (.cells #[.func (.func 26) #[] #[]] 50 (0, 0)), (Big [])])]), Ob g87 (.cells #[.slice pr1 (min (srt Rv.zero cF ((l.map (toRv sd)).filter q1)).length slots.toNat) cr1] 22 (0, 0)), Rw 30 10 pr1 ((srt Rv.zero cF ((l.map (toRv sd)).filter q1)).length) cr1 (fl rvL (srt Rv.zero cF ((l.map (toRv sd)).filter q1))), (Big []), (Big [Ob bl72 (.cells #[.slice (some ⟨g69, 0, none⟩) (3) (3)] 78 (0, 0)), Ob g69 (.cells #[.func (.func 69) #[] #[.pointer (some ⟨bl60, 0, none⟩)], .func (.func 64) #[] #[.pointer (some ⟨bl63, 0, none⟩)], .func (.func 64) #[] #[.pointer (some ⟨bl66, 0, none⟩)]] 48 (0, 0)), (Big [Ob bl60 (.cells #[.func (.func 40) #[] #[]] 50 (0, 0)), (Big [])]), (Big [Ob bl63 (.cells #[.func (.func 41) #[] #[]] 50 (0, 0)), (Big [])]), (Big [Ob bl66 (.cells #[.func (.func 26) #[] #[]] 50 (0, 0)), (Big [])])]), Rw 30 10 pa ((l.map (toRv sd)).length) ca (fl rvL (l.map (toRv sd))), Old w no] := S.big (L := [Ob bl105 (.cells #[.slice (some ⟨g102, 0, none⟩) (3) (3)] 78 (0, 0)), Ob g102 (.cells #[.func (.func 64) #[] #[.pointer (some ⟨bl92, 0, none⟩)], .func (.func 64) #[] #[.pointer (some ⟨bl95, 0, none⟩)], .func (.func 64) #[] #[.pointer (some ⟨bl99, 0, none⟩)]] 48 (0, 0)), (Big [Ob bl92 (.cells #[.func (.func 41) #[] #[]] 50 (0, 0)), (Big [])]), (Big [Ob bl95 (.cells #[.func (.func 70) #[] #[.pointer (some ⟨bl96, 0, none⟩)]] 50 (0, 0)), (Big [Ob bl96 (.cells #[.func (.func 42) #[] #[.pointer (some ⟨g1, 0, none⟩)]] 45 (0, 0)), (Big [Ob g1 (.cells #[.int .i64 turn] 3 (0, 0))])])]), (Big [Ob bl99 (.cells #[.func (.func 26) #[] #[]] 50 (0, 0)), (Big [])])]) (H114.takes [3, 4, 2, 1, 0, 5, 6, 7, 8, 9, 10] (by decide))
                have H116 : S wq106 [(Big [Ob g87 (.cells #[.slice pr1 (min (srt Rv.zero cF ((l.map (toRv sd)).filter q1)).length slots.toNat) cr1] 22 (0, 0)), Rw 30 10 pr1 ((srt Rv.zero cF ((l.map (toRv sd)).filter q1)).length) cr1 (fl rvL (srt Rv.zero cF ((l.map (toRv sd)).filter q1)))]), (Big [Ob bl105 (.cells #[.slice (some ⟨g102, 0, none⟩) (3) (3)] 78 (0, 0)), Ob g102 (.cells #[.func (.func 64) #[] #[.pointer (some ⟨bl92, 0, none⟩)], .func (.func 64) #[] #[.pointer (some ⟨bl95, 0, none⟩)], .func (.func 64) #[] #[.pointer (some ⟨bl99, 0, none⟩)]] 48 (0, 0)), (Big [Ob bl92 (.cells #[.func (.func 41) #[] #[]] 50 (0, 0)), (Big [])]), (Big [Ob bl95 (.cells #[.func (.func 70) #[] #[.pointer (some ⟨bl96, 0, none⟩)]] 50 (0, 0)), (Big [Ob bl96 (.cells #[.func (.func 42) #[] #[.pointer (some ⟨g1, 0, none⟩)]] 45 (0, 0)), (Big [Ob g1 (.cells #[.int .i64 turn] 3 (0, 0))])])]), (Big [Ob bl99 (.cells #[.func (.func 26) #[] #[]] 50 (0, 0)), (Big [])])]), (Big []), (Big [Ob bl72 (.cells #[.slice (some ⟨g69, 0, none⟩) (3) (3)] 78 (0, 0)), Ob g69 (.cells #[.func (.func 69) #[] #[.pointer (some ⟨bl60, 0, none⟩)], .func (.func 64) #[] #[.pointer (some ⟨bl63, 0, none⟩)], .func (.func 64) #[] #[.pointer (some ⟨bl66, 0, none⟩)]] 48 (0, 0)), (Big [Ob bl60 (.cells #[.func (.func 40) #[] #[]] 50 (0, 0)), (Big [])]), (Big [Ob bl63 (.cells #[.func (.func 41) #[] #[]] 50 (0, 0)), (Big [])]), (Big [Ob bl66 (.cells #[.func (.func 26) #[] #[]] 50 (0, 0)), (Big [])])]), Rw 30 10 pa ((l.map (toRv sd)).length) ca (fl rvL (l.map (toRv sd))), Old w no] := S.big (L := [Ob g87 (.cells #[.slice pr1 (min (srt Rv.zero cF ((l.map (toRv sd)).filter q1)).length slots.toNat) cr1] 22 (0, 0)), Rw 30 10 pr1 ((srt Rv.zero cF ((l.map (toRv sd)).filter q1)).length) cr1 (fl rvL (srt Rv.zero cF ((l.map (toRv sd)).filter q1)))]) (H115.takes [1, 2, 0, 3, 4, 5, 6] (by decide))
                have hp5 := cho5_f g87 (firstV l slots sd) pr1 (min (srt Rv.zero cF ((l.map (toRv sd)).filter q1)).length slots.toNat) cr1 (by omega) (Rw 30 10 pr1 ((srt Rv.zero cF ((l.map (toRv sd)).filter q1)).length) cr1 (fl rvL (srt Rv.zero cF ((l.map (toRv sd)).filter q1)))) (fun w9 h9 => (h9.rwReads (k := 0) rfl).takeL rvE (min (srt Rv.zero cF ((l.map (toRv sd)).filter q1)).length slots.toNat) (Nat.min_le_left _ _))
                refine l_of (s_call (wt0 rfl) (x_call' rfl rfl cl23) (which_s (l.map (toRv sd)) pa ((l.map (toRv sd)).length) ca (by rw [List.length_map]; omega) 43 #[] #[.pointer (some ⟨g87, 0, none⟩)] (Big [Ob g87 (.cells #[.slice pr1 (min (srt Rv.zero cF ((l.map (toRv sd)).filter q1)).length slots.toNat) cr1] 22 (0, 0)), Rw 30 10 pr1 ((srt Rv.zero cF ((l.map (toRv sd)).filter q1)).length) cr1 (fl rvL (srt Rv.zero cF ((l.map (toRv sd)).filter q1)))]) (q2 ((firstV l slots sd).map Rv.id)) (fun _ => True) hp5 68 #[] #[.pointer (some ⟨bl105, 0, none⟩)] (Big [Ob bl105 (.cells #[.slice (some ⟨g102, 0, none⟩) (3) (3)] 78 (0, 0)), Ob g102 (.cells #[.func (.func 64) #[] #[.pointer (some ⟨bl92, 0, none⟩)], .func (.func 64) #[] #[.pointer (some ⟨bl95, 0, none⟩)], .func (.func 64) #[] #[.pointer (some ⟨bl99, 0, none⟩)]] 48 (0, 0)), (Big [Ob bl92 (.cells #[.func (.func 41) #[] #[]] 50 (0, 0)), (Big [])]), (Big [Ob bl95 (.cells #[.func (.func 70) #[] #[.pointer (some ⟨bl96, 0, none⟩)]] 50 (0, 0)), (Big [Ob bl96 (.cells #[.func (.func 42) #[] #[.pointer (some ⟨g1, 0, none⟩)]] 45 (0, 0)), (Big [Ob g1 (.cells #[.int .i64 turn] 3 (0, 0))])])]), (Big [Ob bl99 (.cells #[.func (.func 26) #[] #[]] 50 (0, 0)), (Big [])])]) (cR turn) DR (by1_3f bl105 g102 DR 64 #[] #[.pointer (some ⟨bl92, 0, none⟩)] (Big [Ob bl92 (.cells #[.func (.func 41) #[] #[]] 50 (0, 0)), (Big [])]) (fun x y : Rv => Rv.lt x - Rv.lt y) (less1_f bl92 41 #[] #[] (Big []) Rv.lt DR (byLet_f DR) (fun x y h1 h2 => by unfold DR at h1 h2; omega)) 64 #[] #[.pointer (some ⟨bl95, 0, none⟩)] (Big [Ob bl95 (.cells #[.func (.func 70) #[] #[.pointer (some ⟨bl96, 0, none⟩)]] 50 (0, 0)), (Big [Ob bl96 (.cells #[.func (.func 42) #[] #[.pointer (some ⟨g1, 0, none⟩)]] 45 (0, 0)), (Big [Ob g1 (.cells #[.int .i64 turn] 3 (0, 0))])])]) (fun x y : Rv => (bhd turn) x - (bhd turn) y) (less1_f bl95 70 #[] #[.pointer (some ⟨bl96, 0, none⟩)] (Big [Ob bl96 (.cells #[.func (.func 42) #[] #[.pointer (some ⟨g1, 0, none⟩)]] 45 (0, 0)), (Big [Ob g1 (.cells #[.int .i64 turn] 3 (0, 0))])]) (bhd turn) DR (ahead1_f bl96 42 #[] #[.pointer (some ⟨g1, 0, none⟩)] (Big [Ob g1 (.cells #[.int .i64 turn] 3 (0, 0))]) (fun x : Rv => decide (turn < x.id)) DR ((cho4_f g1 turn).imp fun _ _ => trivial)) (fun x y _ _ => by unfold bhd; split <;> split <;> omega)) 64 #[] #[.pointer (some ⟨bl99, 0, none⟩)] (Big [Ob bl99 (.cells #[.func (.func 26) #[] #[]] 50 (0, 0)), (Big [])]) (fun x y : Rv => Rv.id x - Rv.id y) (less1_f bl99 26 #[] #[] (Big []) Rv.id DR (byID_f DR) (fun x y h1 h2 => by unfold DR at h1 h2; omega))) (fun _ _ => trivial) hDl _ (H116.takes [0, 1] (by decide)) (H116.staysRw (i := 4) (k1 := 0) (k2 := 1) rfl rfl rfl (by decide) (by decide))) ?_)
                rintro _ wq117 ⟨pr2, cr2, rfl, H118⟩
                replace H118 : S wq117 [Rw 30 10 pr2 ((srt Rv.zero (cR turn) ((l.map (toRv sd)).filter (q2 ((firstV l slots sd).map Rv.id)))).length) cr2 (fl rvL (srt Rv.zero (cR turn) ((l.map (toRv sd)).filter (q2 ((firstV l slots sd).map Rv.id))))), (Big [Ob g87 (.cells #[.slice pr1 (min (srt Rv.zero cF ((l.map (toRv sd)).filter q1)).length slots.toNat) cr1] 22 (0, 0)), Rw 30 10 pr1 ((srt Rv.zero cF ((l.map (toRv sd)).filter q1)).length) cr1 (fl rvL (srt Rv.zero cF ((l.map (toRv sd)).filter q1)))]), (Big [Ob bl105 (.cells #[.slice (some ⟨g102, 0, none⟩) (3) (3)] 78 (0, 0)), Ob g102 (.cells #[.func (.func 64) #[] #[.pointer (some ⟨bl92, 0, none⟩)], .func (.func 64) #[] #[.pointer (some ⟨bl95, 0, none⟩)], .func (.func 64) #[] #[.pointer (some ⟨bl99, 0, none⟩)]] 48 (0, 0)), (Big [Ob bl92 (.cells #[.func (.func 41) #[] #[]] 50 (0, 0)), (Big [])]), (Big [Ob bl95 (.cells #[.func (.func 70) #[] #[.pointer (some ⟨bl96, 0, none⟩)]] 50 (0, 0)), (Big [Ob bl96 (.cells #[.func (.func 42) #[] #[.pointer (some ⟨g1, 0, none⟩)]] 45 (0, 0)), (Big [Ob g1 (.cells #[.int .i64 turn] 3 (0, 0))])])]), (Big [Ob bl99 (.cells #[.func (.func 26) #[] #[]] 50 (0, 0)), (Big [])])]), (Big []), (Big [Ob bl72 (.cells #[.slice (some ⟨g69, 0, none⟩) (3) (3)] 78 (0, 0)), Ob g69 (.cells #[.func (.func 69) #[] #[.pointer (some ⟨bl60, 0, none⟩)], .func (.func 64) #[] #[.pointer (some ⟨bl63, 0, none⟩)], .func (.func 64) #[] #[.pointer (some ⟨bl66, 0, none⟩)]] 48 (0, 0)), (Big [Ob bl60 (.cells #[.func (.func 40) #[] #[]] 50 (0, 0)), (Big [])]), (Big [Ob bl63 (.cells #[.func (.func 41) #[] #[]] 50 (0, 0)), (Big [])]), (Big [Ob bl66 (.cells #[.func (.func 26) #[] #[]] 50 (0, 0)), (Big [])])]), Rw 30 10 pa ((l.map (toRv sd)).length) ca (fl rvL (l.map (toRv sd))), Old w no] := H116.absorbI (new := [Rw 30 10 pr2 ((srt Rv.zero (cR turn) ((l.map (toRv sd)).filter (q2 ((firstV l slots sd).map Rv.id)))).length) cr2 (fl rvL (srt Rv.zero (cR turn) ((l.map (toRv sd)).filter (q2 ((firstV l slots sd).map Rv.id))))), (Big [Ob g87 (.cells #[.slice pr1 (min (srt Rv.zero cF ((l.map (toRv sd)).filter q1)).length slots.toNat) cr1] 22 (0, 0)), Rw 30 10 pr1 ((srt Rv.zero cF ((l.map (toRv sd)).filter q1)).length) cr1 (fl rvL (srt Rv.zero cF ((l.map (toRv sd)).filter q1)))]), (Big [Ob bl105 (.cells #[.slice (some ⟨g102, 0, none⟩) (3) (3)] 78 (0, 0)), Ob g102 (.cells #[.func (.func 64) #[] #[.pointer (some ⟨bl92, 0, none⟩)], .func (.func 64) #[] #[.pointer (some ⟨bl95, 0, none⟩)], .func (.func 64) #[] #[.pointer (some ⟨bl99, 0, none⟩)]] 48 (0, 0)), (Big [Ob bl92 (.cells #[.func (.func 41) #[] #[]] 50 (0, 0)), (Big [])]), (Big [Ob bl95 (.cells #[.func (.func 70) #[] #[.pointer (some ⟨bl96, 0, none⟩)]] 50 (0, 0)), (Big [Ob bl96 (.cells #[.func (.func 42) #[] #[.pointer (some ⟨g1, 0, none⟩)]] 45 (0, 0)), (Big [Ob g1 (.cells #[.int .i64 turn] 3 (0, 0))])])]), (Big [Ob bl99 (.cells #[.func (.func 26) #[] #[]] 50 (0, 0)), (Big [])])])]) [0, 1] H118
                have H119 : S wq117 [Ob g87 (.cells #[.slice pr1 (min (srt Rv.zero cF ((l.map (toRv sd)).filter q1)).length slots.toNat) cr1] 22 (0, 0)), Rw 30 10 pr1 ((srt Rv.zero cF ((l.map (toRv sd)).filter q1)).length) cr1 (fl rvL (srt Rv.zero cF ((l.map (toRv sd)).filter q1))), Rw 30 10 pr2 ((srt Rv.zero (cR turn) ((l.map (toRv sd)).filter (q2 ((firstV l slots sd).map Rv.id)))).length) cr2 (fl rvL (srt Rv.zero (cR turn) ((l.map (toRv sd)).filter (q2 ((firstV l slots sd).map Rv.id))))), (Big [Ob bl105 (.cells #[.slice (some ⟨g102, 0, none⟩) (3) (3)] 78 (0, 0)), Ob g102 (.cells #[.func (.func 64) #[] #[.pointer (some ⟨bl92, 0, none⟩)], .func (.func 64) #[] #[.pointer (some ⟨bl95, 0, none⟩)], .func (.func 64) #[] #[.pointer (some ⟨bl99, 0, none⟩)]] 48 (0, 0)), (Big [Ob bl92 (.cells #[.func (.func 41) #[] #[]] 50 (0, 0)), (Big [])]), (Big [Ob bl95 (.cells #[.func (.func 70) #[] #[.pointer (some ⟨bl96, 0, none⟩)]] 50 (0, 0)), (Big [Ob bl96 (.cells #[.func (.func 42) #[] #[.pointer (some ⟨g1, 0, none⟩)]] 45 (0, 0)), (Big [Ob g1 (.cells #[.int .i64 turn] 3 (0, 0))])])]), (Big [Ob bl99 (.cells #[.func (.func 26) #[] #[]] 50 (0, 0)), (Big [])])]), (Big []), (Big [Ob bl72 (.cells #[.slice (some ⟨g69, 0, none⟩) (3) (3)] 78 (0, 0)), Ob g69 (.cells #[.func (.func 69) #[] #[.pointer (some ⟨bl60, 0, none⟩)], .func (.func 64) #[] #[.pointer (some ⟨bl63, 0, none⟩)], .func (.func 64) #[] #[.pointer (some ⟨bl66, 0, none⟩)]] 48 (0, 0)), (Big [Ob bl60 (.cells #[.func (.func 40) #[] #[]] 50 (0, 0)), (Big [])]), (Big [Ob bl63 (.cells #[.func (.func 41) #[] #[]] 50 (0, 0)), (Big [])]), (Big [Ob bl66 (.cells #[.func (.func 26) #[] #[]] 50 (0, 0)), (Big [])])]), Rw 30 10 pa ((l.map (toRv sd)).length) ca (fl rvL (l.map (toRv sd))), Old w no] := S.unbig (H118.takes [1, 0, 2, 3, 4, 5, 6] (by decide))
                refine b_ret rfl rfl ?_
                refine l_of (s_val (v := .slice pr2 ((srt Rv.zero (cR turn) ((l.map (toRv sd)).filter (q2 ((firstV l slots sd).map Rv.id)))).length) cr2) (wt0 rfl) rfl rfl (x_assign rfl rfl) ?_)
                refine g_nil ?_
                refine g_then ?_
                refine g_weak [(16, .pointer (some ⟨g87, 0, none⟩)), (18, .slice pr2 ((srt Rv.zero (cR turn) ((l.map (toRv sd)).filter (q2 ((firstV l slots sd).map Rv.id)))).length) cr2)] ⟨rfl, rfl, trivial⟩ ?_
                refine g_seq ?_
                refine g_anyY [] (fun wx => S wx [Ob g87 (.cells #[.slice pr1 (min (srt Rv.zero cF ((l.map (toRv sd)).filter q1)).length slots.toNat) cr1] 22 (0, 0))]) (fun wx => S wx [Ob g87 (.cells #[.slice pr1 (min (srt Rv.zero cF ((l.map (toRv sd)).filter q1)).length slots.toNat) cr1] 22 (0, 0))]) [] (by kernel_rfl) H119 (fun wq120 H121 => ?_)
                refine y_take (v := .slice pr1 (min (srt Rv.zero cF ((l.map (toRv sd)).filter q1)).length slots.toNat) cr1) 0 rfl (wt0 rfl) rfl rfl rfl (by kernel_rfl) (by kernel_rfl) (by kernel_rfl) (by kernel_rfl) (by kernel_rfl) (H121.mask [true, false, false, false, false, false, false, false]) (fun wx H => x_load1 H 0 rfl rfl Try.underlying22 rfl rfl rfl) ?_
                refine y_pure (v := .slice pr2 ((srt Rv.zero (cR turn) ((l.map (toRv sd)).filter (q2 ((firstV l slots sd).map Rv.id)))).length) cr2) 1 rfl (wt0 rfl) rfl rfl rfl (by kernel_rfl) (by kernel_rfl) (by kernel_rfl) (by kernel_rfl) (fun wx => x_move rfl rfl) ?_
                refine y_one (i := 2) (by kernel_rfl) rfl ?_
                refine s_call (wt0 rfl) (x_call' rfl rfl cl35) (front_s (srt Rv.zero (cR turn) ((l.map (toRv sd)).filter (q2 ((firstV l slots sd).map Rv.id)))) pr2 ((srt Rv.zero (cR turn) ((l.map (toRv sd)).filter (q2 ((firstV l slots sd).map Rv.id)))).length) cr2 (by omega) 1 _ (H121.rwReads (k := 2) rfl)) ?_
                rintro _ wq122 ⟨rfl, H123⟩
                replace H123 : S wq122 [Ob g87 (.cells #[.slice pr1 (min (srt Rv.zero cF ((l.map (toRv sd)).filter q1)).length slots.toNat) cr1] 22 (0, 0)), Rw 30 10 pr1 ((srt Rv.zero cF ((l.map (toRv sd)).filter q1)).length) cr1 (fl rvL (srt Rv.zero cF ((l.map (toRv sd)).filter q1))), Rw 30 10 pr2 ((srt Rv.zero (cR turn) ((l.map (toRv sd)).filter (q2 ((firstV l slots sd).map Rv.id)))).length) cr2 (fl rvL (srt Rv.zero (cR turn) ((l.map (toRv sd)).filter (q2 ((firstV l slots sd).map Rv.id))))), (Big [Ob bl105 (.cells #[.slice (some ⟨g102, 0, none⟩) (3) (3)] 78 (0, 0)), Ob g102 (.cells #[.func (.func 64) #[] #[.pointer (some ⟨bl92, 0, none⟩)], .func (.func 64) #[] #[.pointer (some ⟨bl95, 0, none⟩)], .func (.func 64) #[] #[.pointer (some ⟨bl99, 0, none⟩)]] 48 (0, 0)), (Big [Ob bl92 (.cells #[.func (.func 41) #[] #[]] 50 (0, 0)), (Big [])]), (Big [Ob bl95 (.cells #[.func (.func 70) #[] #[.pointer (some ⟨bl96, 0, none⟩)]] 50 (0, 0)), (Big [Ob bl96 (.cells #[.func (.func 42) #[] #[.pointer (some ⟨g1, 0, none⟩)]] 45 (0, 0)), (Big [Ob g1 (.cells #[.int .i64 turn] 3 (0, 0))])])]), (Big [Ob bl99 (.cells #[.func (.func 26) #[] #[]] 50 (0, 0)), (Big [])])]), (Big []), (Big [Ob bl72 (.cells #[.slice (some ⟨g69, 0, none⟩) (3) (3)] 78 (0, 0)), Ob g69 (.cells #[.func (.func 69) #[] #[.pointer (some ⟨bl60, 0, none⟩)], .func (.func 64) #[] #[.pointer (some ⟨bl63, 0, none⟩)], .func (.func 64) #[] #[.pointer (some ⟨bl66, 0, none⟩)]] 48 (0, 0)), (Big [Ob bl60 (.cells #[.func (.func 40) #[] #[]] 50 (0, 0)), (Big [])]), (Big [Ob bl63 (.cells #[.func (.func 41) #[] #[]] 50 (0, 0)), (Big [])]), (Big [Ob bl66 (.cells #[.func (.func 26) #[] #[]] 50 (0, 0)), (Big [])])]), Rw 30 10 pa ((l.map (toRv sd)).length) ca (fl rvL (l.map (toRv sd))), Old w no] := H121.absorb (new := []) H123
                refine b_ret rfl rfl ?_
                refine y_k (H123.mask [true, false, false, false, false, false, false, false]) (H123.mask [true, false, false, false, false, false, false, false]) ?_
                refine y_one (i := 3) (by kernel_rfl) rfl ?_
                refine s_buildSlice H123 (wt0 rfl) rfl rfl rfl (vs := [.slice pr1 (min (srt Rv.zero cF ((l.map (toRv sd)).filter q1)).length slots.toNat) cr1, .slice pr2 (min (srt Rv.zero (cR turn) ((l.map (toRv sd)).filter (q2 ((firstV l slots sd).map Rv.id)))).length (1 : Int).toNat) cr2]) rfl Try.underlying79 sz22 ze22 rfl rfl (cells := #[.slice pr1 (min (srt Rv.zero cF ((l.map (toRv sd)).filter q1)).length slots.toNat) cr1, .slice pr2 (min (srt Rv.zero (cR turn) ((l.map (toRv sd)).filter (q2 ((firstV l slots sd).map Rv.id)))).length (1 : Int).toNat) cr2]) (by kernel_rfl) ?_
                intro g124 wq125 H126
                refine y_k (H126.mask [false, true, false, false, false, false, false, false, false]) (H126.mask [false, true, false, false, false, false, false, false, false]) ?_
                refine y_one (i := 4) (by kernel_rfl) rfl ?_
                refine s_call (wt0 rfl) (x_call' rfl rfl cl45) (concat_s g124 (firstV l slots sd) (restV l slots sd turn) pr1 (min (srt Rv.zero cF ((l.map (toRv sd)).filter q1)).length slots.toNat) cr1 pr2 (min (srt Rv.zero (cR turn) ((l.map (toRv sd)).filter (q2 ((firstV l slots sd).map Rv.id)))).length (1 : Int).toNat) cr2 (by omega) (by omega) _ (H126.takes [0] (by decide)) ((H126.apartRw (i := 2) (k := 0) rfl rfl (by decide)).take rvE (min (srt Rv.zero cF ((l.map (toRv sd)).filter q1)).length slots.toNat) (Nat.min_le_left _ _)) ((H126.apartRw (i := 3) (k := 0) rfl rfl (by decide)).take rvE (min (srt Rv.zero (cR turn) ((l.map (toRv sd)).filter (q2 ((firstV l slots sd).map Rv.id)))).length (1 : Int).toNat) (Nat.min_le_left _ _))) ?_
                rintro _ wq127 ⟨pr3, cr3, rfl, H128⟩
                replace H128 : S wq127 [Rw 30 10 pr3 ((firstV l slots sd ++ restV l slots sd turn).length) cr3 (fl rvL (firstV l slots sd ++ restV l slots sd turn)), Ob g124 (.cells #[.slice pr1 (min (srt Rv.zero cF ((l.map (toRv sd)).filter q1)).length slots.toNat) cr1, .slice pr2 (min (srt Rv.zero (cR turn) ((l.map (toRv sd)).filter (q2 ((firstV l slots sd).map Rv.id)))).length (1 : Int).toNat) cr2] 22 (0, 0)), Ob g87 (.cells #[.slice pr1 (min (srt Rv.zero cF ((l.map (toRv sd)).filter q1)).length slots.toNat) cr1] 22 (0, 0)), Rw 30 10 pr1 ((srt Rv.zero cF ((l.map (toRv sd)).filter q1)).length) cr1 (fl rvL (srt Rv.zero cF ((l.map (toRv sd)).filter q1))), Rw 30 10 pr2 ((srt Rv.zero (cR turn) ((l.map (toRv sd)).filter (q2 ((firstV l slots sd).map Rv.id)))).length) cr2 (fl rvL (srt Rv.zero (cR turn) ((l.map (toRv sd)).filter (q2 ((firstV l slots sd).map Rv.id))))), (Big [Ob bl105 (.cells #[.slice (some ⟨g102, 0, none⟩) (3) (3)] 78 (0, 0)), Ob g102 (.cells #[.func (.func 64) #[] #[.pointer (some ⟨bl92, 0, none⟩)], .func (.func 64) #[] #[.pointer (some ⟨bl95, 0, none⟩)], .func (.func 64) #[] #[.pointer (some ⟨bl99, 0, none⟩)]] 48 (0, 0)), (Big [Ob bl92 (.cells #[.func (.func 41) #[] #[]] 50 (0, 0)), (Big [])]), (Big [Ob bl95 (.cells #[.func (.func 70) #[] #[.pointer (some ⟨bl96, 0, none⟩)]] 50 (0, 0)), (Big [Ob bl96 (.cells #[.func (.func 42) #[] #[.pointer (some ⟨g1, 0, none⟩)]] 45 (0, 0)), (Big [Ob g1 (.cells #[.int .i64 turn] 3 (0, 0))])])]), (Big [Ob bl99 (.cells #[.func (.func 26) #[] #[]] 50 (0, 0)), (Big [])])]), (Big []), (Big [Ob bl72 (.cells #[.slice (some ⟨g69, 0, none⟩) (3) (3)] 78 (0, 0)), Ob g69 (.cells #[.func (.func 69) #[] #[.pointer (some ⟨bl60, 0, none⟩)], .func (.func 64) #[] #[.pointer (some ⟨bl63, 0, none⟩)], .func (.func 64) #[] #[.pointer (some ⟨bl66, 0, none⟩)]] 48 (0, 0)), (Big [Ob bl60 (.cells #[.func (.func 40) #[] #[]] 50 (0, 0)), (Big [])]), (Big [Ob bl63 (.cells #[.func (.func 41) #[] #[]] 50 (0, 0)), (Big [])]), (Big [Ob bl66 (.cells #[.func (.func 26) #[] #[]] 50 (0, 0)), (Big [])])]), Rw 30 10 pa ((l.map (toRv sd)).length) ca (fl rvL (l.map (toRv sd))), Old w no] := H126.absorbI (new := [Rw 30 10 pr3 ((firstV l slots sd ++ restV l slots sd turn).length) cr3 (fl rvL (firstV l slots sd ++ restV l slots sd turn)), Ob g124 (.cells #[.slice pr1 (min (srt Rv.zero cF ((l.map (toRv sd)).filter q1)).length slots.toNat) cr1, .slice pr2 (min (srt Rv.zero (cR turn) ((l.map (toRv sd)).filter (q2 ((firstV l slots sd).map Rv.id)))).length (1 : Int).toNat) cr2] 22 (0, 0))]) [0] H128
                refine b_ret rfl rfl ?_
                refine y_k (H128.mask [false, false, true, false, false, false, false, false, false, false]) (H128.mask [false, false, true, false, false, false, false, false, false, false]) ?_
                refine y_one (i := 5) (by kernel_rfl) rfl ?_
                refine s_call (wt0 rfl) (x_call' rfl rfl cl28) (ids_s (firstV l slots sd ++ restV l slots sd turn) pr3 ((firstV l slots sd ++ restV l slots sd turn).length) cr3 ((by unfold firstV restV; rw [List.length_append, List.length_take, List.length_take]; omega)) _ (H128.rwReads (k := 0) rfl)) ?_
                rintro _ wq131 ⟨p129, c130, rfl, H132⟩
                replace H132 : S wq131 [Rw 3 1 p129 ((sortI ((firstV l slots sd ++ restV l slots sd turn).map Rv.id)).length) c130 (fl intL (sortI ((firstV l slots sd ++ restV l slots sd turn).map Rv.id))), Rw 30 10 pr3 ((firstV l slots sd ++ restV l slots sd turn).length) cr3 (fl rvL (firstV l slots sd ++ restV l slots sd turn)), Ob g124 (.cells #[.slice pr1 (min (srt Rv.zero cF ((l.map (toRv sd)).filter q1)).length slots.toNat) cr1, .slice pr2 (min (srt Rv.zero (cR turn) ((l.map (toRv sd)).filter (q2 ((firstV l slots sd).map Rv.id)))).length (1 : Int).toNat) cr2] 22 (0, 0)), Ob g87 (.cells #[.slice pr1 (min (srt Rv.zero cF ((l.map (toRv sd)).filter q1)).length slots.toNat) cr1] 22 (0, 0)), Rw 30 10 pr1 ((srt Rv.zero cF ((l.map (toRv sd)).filter q1)).length) cr1 (fl rvL (srt Rv.zero cF ((l.map (toRv sd)).filter q1))), Rw 30 10 pr2 ((srt Rv.zero (cR turn) ((l.map (toRv sd)).filter (q2 ((firstV l slots sd).map Rv.id)))).length) cr2 (fl rvL (srt Rv.zero (cR turn) ((l.map (toRv sd)).filter (q2 ((firstV l slots sd).map Rv.id))))), (Big [Ob bl105 (.cells #[.slice (some ⟨g102, 0, none⟩) (3) (3)] 78 (0, 0)), Ob g102 (.cells #[.func (.func 64) #[] #[.pointer (some ⟨bl92, 0, none⟩)], .func (.func 64) #[] #[.pointer (some ⟨bl95, 0, none⟩)], .func (.func 64) #[] #[.pointer (some ⟨bl99, 0, none⟩)]] 48 (0, 0)), (Big [Ob bl92 (.cells #[.func (.func 41) #[] #[]] 50 (0, 0)), (Big [])]), (Big [Ob bl95 (.cells #[.func (.func 70) #[] #[.pointer (some ⟨bl96, 0, none⟩)]] 50 (0, 0)), (Big [Ob bl96 (.cells #[.func (.func 42) #[] #[.pointer (some ⟨g1, 0, none⟩)]] 45 (0, 0)), (Big [Ob g1 (.cells #[.int .i64 turn] 3 (0, 0))])])]), (Big [Ob bl99 (.cells #[.func (.func 26) #[] #[]] 50 (0, 0)), (Big [])])]), (Big []), (Big [Ob bl72 (.cells #[.slice (some ⟨g69, 0, none⟩) (3) (3)] 78 (0, 0)), Ob g69 (.cells #[.func (.func 69) #[] #[.pointer (some ⟨bl60, 0, none⟩)], .func (.func 64) #[] #[.pointer (some ⟨bl63, 0, none⟩)], .func (.func 64) #[] #[.pointer (some ⟨bl66, 0, none⟩)]] 48 (0, 0)), (Big [Ob bl60 (.cells #[.func (.func 40) #[] #[]] 50 (0, 0)), (Big [])]), (Big [Ob bl63 (.cells #[.func (.func 41) #[] #[]] 50 (0, 0)), (Big [])]), (Big [Ob bl66 (.cells #[.func (.func 26) #[] #[]] 50 (0, 0)), (Big [])])]), Rw 30 10 pa ((l.map (toRv sd)).length) ca (fl rvL (l.map (toRv sd))), Old w no] := H128.absorb (new := [Rw 3 1 p129 ((sortI ((firstV l slots sd ++ restV l slots sd turn).map Rv.id)).length) c130 (fl intL (sortI ((firstV l slots sd ++ restV l slots sd turn).map Rv.id)))]) H132
                refine b_ret rfl rfl ?_
                refine y_k (H132.mask [false, false, false, true, false, false, false, false, false, false, false]) (H132.mask [false, false, false, true, false, false, false, false, false, false, false]) ?_
                refine y_pure (v := .slice p129 ((sortI ((firstV l slots sd ++ restV l slots sd turn).map Rv.id)).length) c130) 6 rfl (wt0 rfl) rfl rfl rfl (by kernel_rfl) (by kernel_rfl) (by kernel_rfl) (by kernel_rfl) (fun wx => x_assign rfl rfl) ?_
                refine y_pure (v := .int .i64 0) 7 rfl (wt0 rfl) rfl rfl rfl (by kernel_rfl) (by kernel_rfl) (by kernel_rfl) (by kernel_rfl) (fun wx => x_assign rfl rfl) ?_
                refine y_done (by kernel_rfl) ?_
                refine g_then ?_
                refine g_ret ?_
                refine fin_ret [.tmp 8, .tmp 9] [.slice p129 ((sortI ((firstV l slots sd ++ restV l slots sd turn).map Rv.id)).length) c130, .int .i64 0] rfl ⟨rfl, rfl, trivial⟩ ?_
                have hv : rtErr l slots turn = 0 := rt_0 (by rintro (h | h); omega; exact absurd h (by rw [hb8]; decide)) hnd (by omega)
                rw [cho_z hv, hv]
                exact ⟨_, _, rfl, H132.takes [0, 10] (by decide)⟩
end Go.Proofs.Ythfglkkjkpdkpaa
