import Derived.Test.YthfglkkjkpdkpaaKm
import Derived.Test.YthfglkkjkpdkpaaKj
set_option linter.unusedSimpArgs false
set_option linter.unusedVariables false
namespace Go.Proofs.Ythfglkkjkpdkpaa
open Go.RowKit

theorem cl10 : callable Try.prog 10 = true := by kernel_rfl
theorem cl11 : callable Try.prog 11 = true := by kernel_rfl
theorem cl13 : callable Try.prog 13 = true := by kernel_rfl
theorem cl14 : callable Try.prog 14 = true := by kernel_rfl
theorem cl15 : callable Try.prog 15 = true := by kernel_rfl
theorem cl5 : callable Try.prog 5 = true := by kernel_rfl
theorem cl8 : callable Try.prog 8 = true := by kernel_rfl
set_option maxRecDepth 20000 in
set_option maxHeartbeats 4000000 in
set_option maxRecDepth 20000 in
set_option maxHeartbeats 4000000 in
theorem chooses_law (l : List Rt) (p : Option Addr) (n c : Nat) (hn2 : n ≤ 9223372036854775807) (hok : ∀ r ∈ l, okR r) (slots : Int) (sd : Bool) (turn : Int) (m : List Int) (q : Option Addr) (k d : Nat) (hk2 : k ≤ 9223372036854775807) (rate last : Int)  (w : World) (hr : Reads w p n c 6 (fl rtL l)) (hq : Reads w q k d 1 (fl intL m)) : Calls Try.prog 4 #[.slice p n c, .int .i64 slots, .bool sd, .int .i64 turn, .slice q k d, .int .i64 rate, .int .i64 last] w fun e w' => e = .returned (.bool true) ∧ S w' [Old w no] := by
  have H0 := S.old w
  have hnl := hr.lenL rtE
  have hkm := hq.lenL intE
  have hcl : l.length ≤ 30 → (choV l slots sd turn).length ≤ 31 := fun h => by
    unfold choV choL firstV restV
    split
    · rw [sortI_len, List.length_map, List.length_append, List.length_take, List.length_take]
      have hle1 := srt_len Rv.zero cF ((l.map (toRv sd)).filter q1)
      have hle2 := List.length_filter_le q1 (l.map (toRv sd))
      have hle5 : (l.map (toRv sd)).length = l.length := List.length_map _
      omega
    · exact Nat.zero_le _
  refine enter 114 Try.func4 rfl rfl rfl ?_
  refine g_weak [(0, .slice p n c), (1, .int .i64 slots), (2, .bool sd), (3, .int .i64 turn), (4, .slice q k d), (5, .int .i64 rate), (6, .int .i64 last)] ⟨rfl, rfl, rfl, rfl, rfl, rfl, rfl, trivial⟩ ?_
  refine g_seq ?_
  refine g_region ?_
  refine l_of (s_val (v := .bool false) (wt0 rfl) rfl rfl (x_assign rfl rfl) ?_)
  refine g_nil ?_
  refine g_then ?_
  refine g_seq ?_
  refine g_seq ?_
  refine g_region ?_
  refine l_of (s_val (v := .slice p n c) (wt0 rfl) rfl rfl (x_move rfl rfl) ?_)
  refine l_of (s_val (v := .int .i64 ((n : Int))) (wt0 rfl) rfl rfl (x_lenl rfl rfl Try.underlying33) ?_)
  refine l_of (s_val (v := .bool (decide ((30 : Int) < (n : Int)))) (wt0 rfl) rfl rfl (x_bin rfl rfl rfl b_gtr) ?_)
  refine l_of (s_val (v := .bool (decide ((30 : Int) < (n : Int)))) (wt0 rfl) rfl rfl (x_move rfl rfl) ?_)
  by_cases hb1 : (30 : Int) < (n : Int)
  · skip
    refine l_of (s_not (wn1 rfl rfl rfl rfl (decide_eq_true hb1)) rfl rfl ?_)
    refine l_of (s_not (wn1 rfl rfl rfl rfl (decide_eq_true hb1)) rfl rfl ?_)
    refine l_of (s_not (wn1 rfl rfl rfl rfl (decide_eq_true hb1)) rfl rfl ?_)
    refine l_of (s_val (v := .bool true) (wt0 rfl) rfl rfl (x_pick_t rfl rfl (decide_eq_true hb1) rfl) ?_)
    refine g_nil ?_
    refine g_then ?_
    refine g_cond_t rfl rfl ?_
    refine g_seq ?_
    refine g_region ?_
    refine l_of (s_call (wt0 rfl) (x_call' rfl rfl cl5) (awake_s _) ?_)
    rintro _ wq2 ⟨rfl, H3⟩
    replace H3 : S wq2 [Old w no] := H0.absorb (new := []) H3
    refine b_ret rfl rfl ?_
    refine l_of (s_val (v := .bool true) (wt0 rfl) rfl rfl (x_assign rfl rfl) ?_)
    refine g_nil ?_
    refine g_then ?_
    refine g_weak [(14, .bool true)] ⟨rfl, trivial⟩ ?_
    refine g_ret ?_
    refine g_then_ret ?_
    refine fin_ret [.tmp 14] [.bool true] rfl ⟨rfl, trivial⟩ ?_
    exact ⟨rfl, H3.mask [true]⟩
  · skip
    refine l_of (s_val (v := .slice q k d) (wt1 rfl rfl rfl rfl (decide_eq_false hb1)) rfl rfl (x_move rfl rfl) ?_)
    refine l_of (s_val (v := .int .i64 ((k : Int))) (wt1 rfl rfl rfl rfl (decide_eq_false hb1)) rfl rfl (x_lenl rfl rfl Try.underlying23) ?_)
    refine l_of (s_val (v := .bool (decide ((60 : Int) < (k : Int)))) (wt1 rfl rfl rfl rfl (decide_eq_false hb1)) rfl rfl (x_bin rfl rfl rfl b_gtr) ?_)
    refine l_of (s_val (v := .bool (decide ((60 : Int) < (k : Int)))) (wt0 rfl) rfl rfl (x_pick_f rfl rfl (decide_eq_false hb1) rfl) ?_)
    refine g_nil ?_
    refine g_then ?_
    by_cases hb4 : (60 : Int) < (k : Int)
    · skip
      refine g_cond_t rfl (decide_eq_true hb4) ?_
      refine g_seq ?_
      refine g_region ?_
      refine l_of (s_call (wt0 rfl) (x_call' rfl rfl cl5) (awake_s _) ?_)
      rintro _ wq5 ⟨rfl, H6⟩
      replace H6 : S wq5 [Old w no] := H0.absorb (new := []) H6
      refine b_ret rfl rfl ?_
      refine l_of (s_val (v := .bool true) (wt0 rfl) rfl rfl (x_assign rfl rfl) ?_)
      refine g_nil ?_
      refine g_then ?_
      refine g_weak [(14, .bool true)] ⟨rfl, trivial⟩ ?_
      refine g_ret ?_
      refine g_then_ret ?_
      refine fin_ret [.tmp 14] [.bool true] rfl ⟨rfl, trivial⟩ ?_
      exact ⟨rfl, H6.mask [true]⟩
    · skip
      refine g_cond_f rfl (decide_eq_false hb4) ?_
      refine g_skip ?_
      refine g_then ?_
      refine g_seq ?_
      refine g_region ?_
      refine l_of (s_val (v := .slice p n c) (wt0 rfl) rfl rfl (x_move rfl rfl) ?_)
      refine l_of (s_val (v := .int .i64 slots) (wt0 rfl) rfl rfl (x_move rfl rfl) ?_)
      refine l_of (s_val (v := .bool sd) (wt0 rfl) rfl rfl (x_move rfl rfl) ?_)
      refine l_of (s_val (v := .int .i64 turn) (wt0 rfl) rfl rfl (x_move rfl rfl) ?_)
      refine l_of (s_call (wt0 rfl) (x_call' rfl rfl cl10) (choose_s l p n c (by omega) hok slots sd turn _ (H0.exReads (k := 0) rfl hr (fun _ _ _ h => h))) ?_)
      rintro _ wq9 ⟨pc7, cc8, rfl, H10⟩
      replace H10 : S wq9 [Rw 3 1 pc7 ((choV l slots sd turn).length) cc8 (fl intL (choV l slots sd turn)), Old w no] := H0.absorb (new := [Rw 3 1 pc7 ((choV l slots sd turn).length) cc8 (fl intL (choV l slots sd turn))]) H10
      refine b_ret rfl rfl ?_
      refine l_of (s_val (v := .tuple #[.slice pc7 ((choV l slots sd turn).length) cc8, .int .i64 ((rtErr l slots turn))]) (wt0 rfl) rfl rfl (x_move rfl rfl) ?_)
      refine l_of (s_val (v := .slice pc7 ((choV l slots sd turn).length) cc8) (wt0 rfl) rfl rfl (x_extract rfl rfl rfl) ?_)
      refine l_of (s_val (v := .int .i64 ((rtErr l slots turn))) (wt0 rfl) rfl rfl (x_extract rfl rfl rfl) ?_)
      refine l_of (s_val (v := .slice pc7 ((choV l slots sd turn).length) cc8) (wt0 rfl) rfl rfl (x_assign rfl rfl) ?_)
      refine l_of (s_val (v := .int .i64 ((rtErr l slots turn))) (wt0 rfl) rfl rfl (x_assign rfl rfl) ?_)
      refine g_nil ?_
      refine g_then ?_
      refine g_weak [(0, .slice p n c), (1, .int .i64 slots), (2, .bool sd), (3, .int .i64 turn), (4, .slice q k d), (5, .int .i64 rate), (6, .int .i64 last), (15, .slice pc7 ((choV l slots sd turn).length) cc8), (16, .int .i64 ((rtErr l slots turn)))] ⟨rfl, rfl, rfl, rfl, rfl, rfl, rfl, rfl, rfl, trivial⟩ ?_
      refine g_seq ?_
      refine g_region ?_
      refine l_of (s_val (v := .slice p n c) (wt0 rfl) rfl rfl (x_move rfl rfl) ?_)
      refine l_of (s_val (v := .int .i64 slots) (wt0 rfl) rfl rfl (x_move rfl rfl) ?_)
      refine l_of (s_val (v := .bool sd) (wt0 rfl) rfl rfl (x_move rfl rfl) ?_)
      refine l_of (s_val (v := .int .i64 turn) (wt0 rfl) rfl rfl (x_move rfl rfl) ?_)
      refine l_of (s_call (wt0 rfl) (x_call' rfl rfl cl11) (choose_r l p n c (by omega) hok slots sd turn _ (H10.exReads (k := 1) rfl hr (fun _ _ _ h => h))) ?_)
      rintro _ wq13 ⟨pc11, cc12, rfl, H14⟩
      replace H14 : S wq13 [Rw 3 1 pc11 ((choV l slots sd turn).length) cc12 (fl intL (choV l slots sd turn)), Rw 3 1 pc7 ((choV l slots sd turn).length) cc8 (fl intL (choV l slots sd turn)), Old w no] := H10.absorb (new := [Rw 3 1 pc11 ((choV l slots sd turn).length) cc12 (fl intL (choV l slots sd turn))]) H14
      refine b_ret rfl rfl ?_
      refine l_of (s_val (v := .tuple #[.slice pc11 ((choV l slots sd turn).length) cc12, .int .i64 ((rtErr l slots turn))]) (wt0 rfl) rfl rfl (x_move rfl rfl) ?_)
      refine l_of (s_val (v := .slice pc11 ((choV l slots sd turn).length) cc12) (wt0 rfl) rfl rfl (x_extract rfl rfl rfl) ?_)
      refine l_of (s_val (v := .int .i64 ((rtErr l slots turn))) (wt0 rfl) rfl rfl (x_extract rfl rfl rfl) ?_)
      refine l_of (s_val (v := .slice pc11 ((choV l slots sd turn).length) cc12) (wt0 rfl) rfl rfl (x_assign rfl rfl) ?_)
      refine l_of (s_val (v := .int .i64 ((rtErr l slots turn))) (wt0 rfl) rfl rfl (x_assign rfl rfl) ?_)
      refine g_nil ?_
      refine g_then ?_
      refine g_weak [(4, .slice q k d), (5, .int .i64 rate), (6, .int .i64 last), (15, .slice pc7 ((choV l slots sd turn).length) cc8), (16, .int .i64 ((rtErr l slots turn))), (17, .slice pc11 ((choV l slots sd turn).length) cc12), (18, .int .i64 ((rtErr l slots turn)))] ⟨rfl, rfl, rfl, rfl, rfl, rfl, rfl, trivial⟩ ?_
      refine g_seq ?_
      refine g_seq ?_
      refine g_region ?_
      refine l_of (s_val (v := .int .i64 ((rtErr l slots turn))) (wt0 rfl) rfl rfl (x_move rfl rfl) ?_)
      refine l_of (s_val (v := .int .i64 ((rtErr l slots turn))) (wt0 rfl) rfl rfl (x_move rfl rfl) ?_)
      refine l_of (s_val (v := .bool (!decide (((rtErr l slots turn) : Int) = (rtErr l slots turn)))) (wt0 rfl) rfl rfl (x_bin rfl rfl rfl b_neq) ?_)
      refine l_of (s_val (v := .bool (!decide (((rtErr l slots turn) : Int) = (rtErr l slots turn)))) (wt0 rfl) rfl rfl (x_move rfl rfl) ?_)
      refine l_of (s_val (v := .slice pc7 ((choV l slots sd turn).length) cc8) (wt1 rfl rfl rfl rfl (nf rfl)) rfl rfl (x_move rfl rfl) ?_)
      refine l_of (s_val (v := .slice pc11 ((choV l slots sd turn).length) cc12) (wt1 rfl rfl rfl rfl (nf rfl)) rfl rfl (x_move rfl rfl) ?_)
      refine l_of (s_call (wt1 rfl rfl rfl rfl (nf rfl)) (x_call' rfl rfl cl8) (same_i (choV l slots sd turn) (by have := hcl (by omega); omega) pc7 ((choV l slots sd turn).length) cc8 pc11 ((choV l slots sd turn).length) cc12 _ (H14.rwReads (k := 1) rfl) (H14.rwReads (k := 0) rfl)) ?_)
      rintro _ wq15 ⟨rfl, H16⟩
      replace H16 : S wq15 [Rw 3 1 pc11 ((choV l slots sd turn).length) cc12 (fl intL (choV l slots sd turn)), Rw 3 1 pc7 ((choV l slots sd turn).length) cc8 (fl intL (choV l slots sd turn)), Old w no] := H14.absorb (new := []) H16
      refine b_ret rfl rfl ?_
      refine l_of (s_val (v := .bool false) (wt1 rfl rfl rfl rfl (nf rfl)) rfl rfl (x_not (b := true) rfl rfl) ?_)
      refine l_of (s_val (v := .bool false) (wt0 rfl) rfl rfl (x_pick_f rfl rfl (nf rfl) rfl) ?_)
      refine g_nil ?_
      refine g_then ?_
      refine g_weak [(4, .slice q k d), (5, .int .i64 rate), (6, .int .i64 last), (57, .bool false)] ⟨rfl, rfl, rfl, rfl, trivial⟩ ?_
      refine g_cond_f rfl rfl ?_
      refine g_skip ?_
      refine g_then ?_
      refine g_seq ?_
      refine g_region ?_
      refine l_of (s_val (v := .int .i64 rate) (wt0 rfl) rfl rfl (x_move rfl rfl) ?_)
      refine l_of (s_call (wt0 rfl) (x_call' rfl rfl cl12) (slots_s rate _) ?_)
      rintro _ wq17 ⟨rfl, H18⟩
      replace H18 : S wq17 [Rw 3 1 pc11 ((choV l slots sd turn).length) cc12 (fl intL (choV l slots sd turn)), Rw 3 1 pc7 ((choV l slots sd turn).length) cc8 (fl intL (choV l slots sd turn)), Old w no] := H16.absorb (new := []) H18
      refine b_ret rfl rfl ?_
      refine l_of (s_val (v := .tuple #[.int .i64 ((slotsV rate).1), .int .i64 ((slotsV rate).2)]) (wt0 rfl) rfl rfl (x_move rfl rfl) ?_)
      refine l_of (s_val (v := .int .i64 ((slotsV rate).1)) (wt0 rfl) rfl rfl (x_extract rfl rfl rfl) ?_)
      refine l_of (s_val (v := .int .i64 ((slotsV rate).2)) (wt0 rfl) rfl rfl (x_extract rfl rfl rfl) ?_)
      refine l_of (s_val (v := .int .i64 ((slotsV rate).1)) (wt0 rfl) rfl rfl (x_assign rfl rfl) ?_)
      refine l_of (s_val (v := .int .i64 ((slotsV rate).2)) (wt0 rfl) rfl rfl (x_assign rfl rfl) ?_)
      refine g_nil ?_
      refine g_then ?_
      refine g_seq ?_
      refine g_region ?_
      refine l_of (s_val (v := .int .i64 rate) (wt0 rfl) rfl rfl (x_move rfl rfl) ?_)
      refine l_of (s_call (wt0 rfl) (x_call' rfl rfl cl13) (slots_r rate _) ?_)
      rintro _ wq19 ⟨rfl, H20⟩
      replace H20 : S wq19 [Rw 3 1 pc11 ((choV l slots sd turn).length) cc12 (fl intL (choV l slots sd turn)), Rw 3 1 pc7 ((choV l slots sd turn).length) cc8 (fl intL (choV l slots sd turn)), Old w no] := H18.absorb (new := []) H20
      refine b_ret rfl rfl ?_
      refine l_of (s_val (v := .tuple #[.int .i64 ((slotsV rate).1), .int .i64 ((slotsV rate).2)]) (wt0 rfl) rfl rfl (x_move rfl rfl) ?_)
      refine l_of (s_val (v := .int .i64 ((slotsV rate).1)) (wt0 rfl) rfl rfl (x_extract rfl rfl rfl) ?_)
      refine l_of (s_val (v := .int .i64 ((slotsV rate).2)) (wt0 rfl) rfl rfl (x_extract rfl rfl rfl) ?_)
      refine l_of (s_val (v := .int .i64 ((slotsV rate).1)) (wt0 rfl) rfl rfl (x_assign rfl rfl) ?_)
      refine l_of (s_val (v := .int .i64 ((slotsV rate).2)) (wt0 rfl) rfl rfl (x_assign rfl rfl) ?_)
      refine g_nil ?_
      refine g_then ?_
      refine g_seq ?_
      refine g_seq ?_
      refine g_region ?_
      refine l_of (s_val (v := .int .i64 ((slotsV rate).1)) (wt0 rfl) rfl rfl (x_move rfl rfl) ?_)
      refine l_of (s_val (v := .int .i64 ((slotsV rate).1)) (wt0 rfl) rfl rfl (x_move rfl rfl) ?_)
      refine l_of (s_val (v := .bool (!decide (((slotsV rate).1 : Int) = (slotsV rate).1))) (wt0 rfl) rfl rfl (x_bin rfl rfl rfl b_neq) ?_)
      refine l_of (s_val (v := .bool (!decide (((slotsV rate).1 : Int) = (slotsV rate).1))) (wt0 rfl) rfl rfl (x_move rfl rfl) ?_)
      refine l_of (s_val (v := .int .i64 ((slotsV rate).2)) (wt1 rfl rfl rfl rfl (nf rfl)) rfl rfl (x_move rfl rfl) ?_)
      refine l_of (s_val (v := .int .i64 ((slotsV rate).2)) (wt1 rfl rfl rfl rfl (nf rfl)) rfl rfl (x_move rfl rfl) ?_)
      refine l_of (s_val (v := .bool (!decide (((slotsV rate).2 : Int) = (slotsV rate).2))) (wt1 rfl rfl rfl rfl (nf rfl)) rfl rfl (x_bin rfl rfl rfl b_neq) ?_)
      refine l_of (s_val (v := .bool (!decide (((slotsV rate).2 : Int) = (slotsV rate).2))) (wt0 rfl) rfl rfl (x_pick_f rfl rfl (nf rfl) rfl) ?_)
      refine g_nil ?_
      refine g_then ?_
      refine g_weak [(4, .slice q k d), (5, .int .i64 rate), (6, .int .i64 last), (75, .bool (!decide (((slotsV rate).2 : Int) = (slotsV rate).2)))] ⟨rfl, rfl, rfl, rfl, trivial⟩ ?_
      refine g_cond_f rfl (nf rfl) ?_
      refine g_skip ?_
      refine g_then ?_
      refine g_seq ?_
      refine g_seq ?_
      refine g_region ?_
      refine l_of (s_val (v := .int .i64 rate) (wt0 rfl) rfl rfl (x_move rfl rfl) ?_)
      refine l_of (s_val (v := .int .i64 last) (wt0 rfl) rfl rfl (x_move rfl rfl) ?_)
      refine l_of (s_buildSlice H20 (wt0 rfl) rfl rfl rfl (vs := [.int .i64 rate, .int .i64 last]) rfl Try.underlying23 sz3 ze3 rfl rfl (cells := #[.int .i64 rate, .int .i64 last]) (by kernel_rfl) ?_)
      intro g21 wq22 H23
      refine l_of (s_val (v := .slice q k d) (wt0 rfl) rfl rfl (x_move rfl rfl) ?_)
      have H24 : S wq22 [Rw 3 1 (some ⟨g21, 0, none⟩) 2 2 (fl intL ([rate, last])), Rw 3 1 pc11 ((choV l slots sd turn).length) cc12 (fl intL (choV l slots sd turn)), Rw 3 1 pc7 ((choV l slots sd turn).length) cc8 (fl intL (choV l slots sd turn)), Old w no] := S.obFl intE H23 (k := 0) rfl rfl (by decide) rfl
      have hln29a := (H24.rwReads (k := 0) rfl).lenL intE
      have hln29b := (H24.exReads (k := 3) rfl hq (fun _ _ _ h => h)).lenL intE
      have hln29 : ([rate, last] ++ m).length = 2 + k := by simp only [List.length_append, List.length_cons, List.length_nil] <;> omega
      refine l_of (s_appLn (l := [rate, last]) (l2 := m) intE H24 0 (wt0 rfl) rfl rfl rfl rfl rfl rfl Try.underlying23 inf3 rfl (by decide) (H24.exReads (k := 3) rfl hq (fun _ _ _ h => h)) (by omega) ?_)
      intro p25 c26 wq27 H28
      replace H28 : S wq27 [Rw 3 1 p25 (([rate, last] ++ m).length) c26 (fl intL ([rate, last] ++ m)), Rw 3 1 pc11 ((choV l slots sd turn).length) cc12 (fl intL (choV l slots sd turn)), Rw 3 1 pc7 ((choV l slots sd turn).length) cc8 (fl intL (choV l slots sd turn)), Old w no] := H28
      refine l_of (s_val (v := .int .i64 ((([rate, last] ++ m).length : Int))) (wt0 rfl) rfl rfl (x_lenl rfl rfl Try.underlying23) ?_)
      refine l_of (s_val (v := .int .i64 0) (wt0 rfl) rfl rfl (x_move rfl rfl) ?_)
      refine g_nil ?_
      refine g_then ?_
      refine g_block ?_
      refine g_loop (ι := Nat) (fun i => [(4, .slice q k d), (5, .int .i64 rate), (6, .int .i64 last), (80, .slice p25 (([rate, last] ++ m).length) c26), (81, .int .i64 ((([rate, last] ++ m).length : Int))), (82, .int .i64 ((i : Int)))]) (fun i wx => (i ≤ ([rate, last] ++ m).length) ∧ (∀ y ∈ ([rate, last] ++ m).take i, 0 ≤ y ∧ y ≤ 1000000000) ∧ S wx [Rw 3 1 p25 (([rate, last] ++ m).length) c26 (fl intL ([rate, last] ++ m)), Old w no]) (fun i => (([rate, last] ++ m).length) - i) (0) ⟨rfl, rfl, rfl, rfl, rfl, rfl, trivial⟩ ⟨Nat.zero_le _, (fun y hy => by simp at hy), (H28.takes [0, 3] (by decide))⟩ ?_
      rintro i wq30 ⟨hi, hbd, H31⟩
      replace H31 : S wq30 [Rw 3 1 p25 (([rate, last] ++ m).length) c26 (fl intL ([rate, last] ++ m)), Old w no] := H31
      refine g_weak [(4, .slice q k d), (5, .int .i64 rate), (6, .int .i64 last), (80, .slice p25 (([rate, last] ++ m).length) c26), (81, .int .i64 ((([rate, last] ++ m).length : Int))), (82, .int .i64 ((i : Int)))] ⟨rfl, rfl, rfl, rfl, rfl, rfl, trivial⟩ ?_
      refine g_seq ?_
      refine g_region ?_
      refine l_of (s_val (v := .bool (decide (((i : Int) : Int) < (([rate, last] ++ m).length : Int)))) (wt0 rfl) rfl rfl (x_bin rfl rfl rfl b_lss) ?_)
      refine g_nil ?_
      refine g_then ?_
      refine g_seq ?_
      by_cases hb32 : ((i : Int) : Int) < (([rate, last] ++ m).length : Int)
      · skip
        refine g_cond_t rfl (decide_eq_true hb32) ?_
        refine g_skip ?_
        refine g_then ?_
        refine g_seq ?_
        refine g_block ?_
        refine g_seq ?_
        refine g_region ?_
        refine l_of (s_val (v := .pointer ((p25).map fun q => q.add (i * 1))) (wt0 rfl) rfl rfl (x_idxR i (H31.rwReads (k := 0) rfl) rfl rfl rfl Try.underlying23 sz3 (by omega)) ?_)
        have hlq := (H31.rwReads (k := 0) rfl).lenL intE
        obtain ⟨x33, hx33⟩ := ex_at (l := ([rate, last] ++ m)) (j := i) (by omega)
        clear hlq
        refine l_of (s_val (v := .int .i64 x33) (wt0 rfl) rfl rfl (x_loadR1 i (H31.rwReads (k := 0) rfl) (by omega) rfl rfl Try.underlying3 rfl (intE.flAt1 hx33 rfl)) ?_)
        refine l_of (s_val (v := .int .i64 x33) (wt0 rfl) rfl rfl (x_assign rfl rfl) ?_)
        refine g_nil ?_
        refine g_then ?_
        refine g_seq ?_
        refine g_region ?_
        refine l_of (s_val (v := .int .i64 x33) (wt0 rfl) rfl rfl (x_move rfl rfl) ?_)
        refine l_of (s_val (v := .bool (decide ((x33 : Int) < 0))) (wt0 rfl) rfl rfl (x_bin rfl rfl rfl b_lss) ?_)
        refine l_of (s_val (v := .bool (decide ((x33 : Int) < 0))) (wt0 rfl) rfl rfl (x_move rfl rfl) ?_)
        by_cases hb34 : (x33 : Int) < 0
        · skip
          refine l_of (s_not (wn1 rfl rfl rfl rfl (decide_eq_true hb34)) rfl rfl ?_)
          refine l_of (s_not (wn1 rfl rfl rfl rfl (decide_eq_true hb34)) rfl rfl ?_)
          refine l_of (s_val (v := .bool true) (wt0 rfl) rfl rfl (x_pick_t rfl rfl (decide_eq_true hb34) rfl) ?_)
          refine g_nil ?_
          refine g_then ?_
          refine g_cond_t rfl rfl ?_
          refine g_seq ?_
          refine g_region ?_
          refine l_of (s_call (wt0 rfl) (x_call' rfl rfl cl5) (awake_s _) ?_)
          rintro _ wq35 ⟨rfl, H36⟩
          replace H36 : S wq35 [Rw 3 1 p25 (([rate, last] ++ m).length) c26 (fl intL ([rate, last] ++ m)), Old w no] := H31.absorb (new := []) H36
          refine b_ret rfl rfl ?_
          refine l_of (s_val (v := .bool true) (wt0 rfl) rfl rfl (x_assign rfl rfl) ?_)
          refine g_nil ?_
          refine g_then ?_
          refine g_weak [(14, .bool true)] ⟨rfl, trivial⟩ ?_
          refine g_ret ?_
          refine g_in_ret ?_
          refine g_then_ret ?_
          refine g_then_ret ?_
          refine g_in_ret ?_
          refine g_then_ret ?_
          refine fin_ret [.tmp 14] [.bool true] rfl ⟨rfl, trivial⟩ ?_
          exact ⟨rfl, H36.mask [false, true]⟩
        · skip
          refine l_of (s_val (v := .int .i64 x33) (wt1 rfl rfl rfl rfl (decide_eq_false hb34)) rfl rfl (x_move rfl rfl) ?_)
          refine l_of (s_val (v := .bool (decide ((1000000000 : Int) < x33))) (wt1 rfl rfl rfl rfl (decide_eq_false hb34)) rfl rfl (x_bin rfl rfl rfl b_gtr) ?_)
          refine l_of (s_val (v := .bool (decide ((1000000000 : Int) < x33))) (wt0 rfl) rfl rfl (x_pick_f rfl rfl (decide_eq_false hb34) rfl) ?_)
          refine g_nil ?_
          refine g_then ?_
          by_cases hb37 : (1000000000 : Int) < x33
          · skip
            refine g_cond_t rfl (decide_eq_true hb37) ?_
            refine g_seq ?_
            refine g_region ?_
            refine l_of (s_call (wt0 rfl) (x_call' rfl rfl cl5) (awake_s _) ?_)
            rintro _ wq38 ⟨rfl, H39⟩
            replace H39 : S wq38 [Rw 3 1 p25 (([rate, last] ++ m).length) c26 (fl intL ([rate, last] ++ m)), Old w no] := H31.absorb (new := []) H39
            refine b_ret rfl rfl ?_
            refine l_of (s_val (v := .bool true) (wt0 rfl) rfl rfl (x_assign rfl rfl) ?_)
            refine g_nil ?_
            refine g_then ?_
            refine g_weak [(14, .bool true)] ⟨rfl, trivial⟩ ?_
            refine g_ret ?_
            refine g_in_ret ?_
            refine g_then_ret ?_
            refine g_then_ret ?_
            refine g_in_ret ?_
            refine g_then_ret ?_
            refine fin_ret [.tmp 14] [.bool true] rfl ⟨rfl, trivial⟩ ?_
            exact ⟨rfl, H39.mask [false, true]⟩
          · skip
            refine g_cond_f rfl (decide_eq_false hb37) ?_
            refine g_skip ?_
            refine g_in ?_
            refine g_then ?_
            refine g_region ?_
            refine l_of (s_val (v := .int .i64 (((i + 1 : Nat) : Int))) (wt0 rfl) rfl rfl (x_bin rfl rfl rfl (b_add (by rw [w64 (by omega)]; omega))) ?_)
            refine l_of (s_val (v := .int .i64 (((i + 1 : Nat) : Int))) (wt0 rfl) rfl rfl (x_move rfl rfl) ?_)
            refine g_nil ?_
            refine g_then ?_
            refine g_round (i := (i)) ((i + 1)) ?_ ?_ ?_
            · exact ⟨rfl, rfl, rfl, rfl, rfl, rfl, trivial⟩
            · exact ⟨by omega, (no_takeP hbd hx33 ⟨by omega, by omega⟩), (H31.takes [0, 1] (by decide))⟩
            · (try dsimp only); omega
      · skip
        refine g_cond_f rfl (decide_eq_false hb32) ?_
        refine g_exit ?_
        rw [List.take_of_length_le (by omega)] at hbd
        have hrt := hbd rate (by simp)
        have hls := hbd last (by simp)
        have hll : ∀ x ∈ m, 0 ≤ x ∧ x ≤ 1000000000 := fun x hx => hbd x (by simp [hx])
        refine g_then_exit ?_
        refine g_then_exit ?_
        refine g_in_hit ?_
        refine g_then ?_
        refine g_seq ?_
        refine g_region ?_
        refine l_of (s_val (v := .slice q k d) (wt0 rfl) rfl rfl (x_move rfl rfl) ?_)
        refine l_of (s_val (v := .int .i64 rate) (wt0 rfl) rfl rfl (x_move rfl rfl) ?_)
        refine l_of (s_val (v := .int .i64 last) (wt0 rfl) rfl rfl (x_move rfl rfl) ?_)
        refine l_of (s_call (wt0 rfl) (x_call' rfl rfl cl14) (by_choke m q k d (by omega) rate last hrt hls hll _ (H31.exReads (k := 1) rfl hq (fun _ _ _ h => h))) ?_)
        rintro _ wq40 ⟨rfl, H41⟩
        replace H41 : S wq40 [Rw 3 1 p25 (([rate, last] ++ m).length) c26 (fl intL ([rate, last] ++ m)), Old w no] := H31.absorb (new := []) H41
        refine b_ret rfl rfl ?_
        refine l_of (s_val (v := .tuple #[.int .i64 ((byV m rate last)), .int .i64 0]) (wt0 rfl) rfl rfl (x_move rfl rfl) ?_)
        refine l_of (s_val (v := .int .i64 ((byV m rate last))) (wt0 rfl) rfl rfl (x_extract rfl rfl rfl) ?_)
        refine l_of (s_val (v := .int .i64 0) (wt0 rfl) rfl rfl (x_extract rfl rfl rfl) ?_)
        refine l_of (s_val (v := .int .i64 ((byV m rate last))) (wt0 rfl) rfl rfl (x_assign rfl rfl) ?_)
        refine l_of (s_val (v := .int .i64 0) (wt0 rfl) rfl rfl (x_assign rfl rfl) ?_)
        refine g_nil ?_
        refine g_then ?_
        refine g_seq ?_
        refine g_region ?_
        refine l_of (s_val (v := .int .i64 0) (wt0 rfl) rfl rfl (x_move rfl rfl) ?_)
        refine l_of (s_val (v := .bool (decide ((0 : Int) = 0))) (wt0 rfl) rfl rfl (x_bin rfl rfl rfl b_eql) ?_)
        refine l_of (s_val (v := .bool (decide ((0 : Int) = 0))) (wt0 rfl) rfl rfl (x_move rfl rfl) ?_)
        refine l_of (s_val (v := .int .i64 ((byV m rate last))) (wt1 rfl rfl rfl rfl (decide_eq_true rfl)) rfl rfl (x_move rfl rfl) ?_)
        refine l_of (s_val (v := .slice q k d) (wt1 rfl rfl rfl rfl (decide_eq_true rfl)) rfl rfl (x_move rfl rfl) ?_)
        refine l_of (s_val (v := .int .i64 rate) (wt1 rfl rfl rfl rfl (decide_eq_true rfl)) rfl rfl (x_move rfl rfl) ?_)
        refine l_of (s_val (v := .int .i64 last) (wt1 rfl rfl rfl rfl (decide_eq_true rfl)) rfl rfl (x_move rfl rfl) ?_)
        refine l_of (s_call (wt1 rfl rfl rfl rfl (decide_eq_true rfl)) (x_call' rfl rfl cl15) (by_ref m q k d (by omega) rate last hrt hls hll _ (H41.exReads (k := 1) rfl hq (fun _ _ _ h => h))) ?_)
        rintro _ wq42 ⟨rfl, H43⟩
        replace H43 : S wq42 [Rw 3 1 p25 (([rate, last] ++ m).length) c26 (fl intL ([rate, last] ++ m)), Old w no] := H41.absorb (new := []) H43
        refine b_ret rfl rfl ?_
        refine l_of (s_val (v := .bool (decide (((byV m rate last) : Int) = (byV m rate last)))) (wt1 rfl rfl rfl rfl (decide_eq_true rfl)) rfl rfl (x_bin rfl rfl rfl b_eql) ?_)
        refine l_of (s_val (v := .bool (decide (((byV m rate last) : Int) = (byV m rate last)))) (wt0 rfl) rfl rfl (x_pick_t rfl rfl (decide_eq_true rfl) rfl) ?_)
        refine l_of (s_val (v := .bool (decide (((byV m rate last) : Int) = (byV m rate last)))) (wt0 rfl) rfl rfl (x_move rfl rfl) ?_)
        refine l_of (s_call (wt1 rfl rfl rfl rfl (decide_eq_true rfl)) (x_call' rfl rfl cl5) (awake_s _) ?_)
        rintro _ wq44 ⟨rfl, H45⟩
        replace H45 : S wq44 [Rw 3 1 p25 (([rate, last] ++ m).length) c26 (fl intL ([rate, last] ++ m)), Old w no] := H43.absorb (new := []) H45
        refine b_ret rfl rfl ?_
        refine l_of (s_val (v := .bool true) (wt0 rfl) rfl rfl (x_pick_t rfl rfl (decide_eq_true rfl) rfl) ?_)
        refine l_of (s_val (v := .bool true) (wt0 rfl) rfl rfl (x_assign rfl rfl) ?_)
        refine g_nil ?_
        refine g_then ?_
        refine g_weak [(14, .bool true)] ⟨rfl, trivial⟩ ?_
        refine g_ret ?_
        refine fin_ret [.tmp 14] [.bool true] rfl ⟨rfl, trivial⟩ ?_
        exact ⟨rfl, H45.mask [false, true]⟩
end Go.Proofs.Ythfglkkjkpdkpaa
