import Derived.Test.YtlajgickimgigaaVE
set_option linter.unusedSimpArgs false
set_option linter.unusedVariables false
namespace Go.Proofs.Ytlajgickimgigaa
open Go.RowKit

theorem cl30 : callable Try.prog 30 = true := by kernel_rfl
theorem cl31 : callable Try.prog 31 = true := by kernel_rfl
theorem cl32 : callable Try.prog 32 = true := by kernel_rfl
theorem cl33 : callable Try.prog 33 = true := by kernel_rfl
theorem cl34 : callable Try.prog 34 = true := by kernel_rfl
theorem cl35 : callable Try.prog 35 = true := by kernel_rfl
theorem cl36 : callable Try.prog 36 = true := by kernel_rfl
theorem leaves_check {s : ByteArray} (h1 : ¬ s.size = 0) (h2 : s.size ≤ 1000) : checkE (leavesS s).1 = 0 := by
  have e : leavesS s = (leafTo s ((s.size + 15) / 16), 0) := by unfold leavesS; rw [if_neg h1, if_neg (by omega)]
  rw [e]
  refine check_ok (by show ¬ (leafTo s _).length = 0; rw [leafTo_len]; omega) ?_ (by show ¬ 4096 < (leafTo s _).length; rw [leafTo_len]; omega)
  unfold digsB; rw [List.all_eq_true]
  intro x hx
  unfold leafTo at hx
  obtain ⟨j, _, rfl⟩ := List.mem_map.1 hx
  simpa using sumS_size _
theorem leaves_err {s : ByteArray} (h2 : s.size ≤ 1000) (h : ¬ (leavesS s).2 = 0) : s.size = 0 ∧ (leavesS s).2 = 11 := by
  unfold leavesS at h ⊢
  by_cases h1 : s.size = 0
  · rw [if_pos h1]; exact ⟨h1, rfl⟩
  · rw [if_neg h1, if_neg (by omega)] at h; exact absurd rfl h
theorem leaves_ok {s : ByteArray} (h2 : s.size ≤ 1000) (h : (leavesS s).2 = 0) : ¬ s.size = 0 ∧ (leavesS s).1 = leafTo s ((s.size + 15) / 16) := by
  unfold leavesS at h ⊢
  by_cases h1 : s.size = 0
  · rw [if_pos h1] at h; exact absurd h (by decide)
  · rw [if_neg h1, if_neg (by omega)]; exact ⟨h1, rfl⟩
theorem of_s_ok {l : List ByteArray} {p : Option Addr} {c : Nat} (hce : checkE l = 0) (hm : l.length ≤ 1099511627776) (w : World) (hr : Reads w p l.length c 1 (stV l)) : Calls Try.prog 30 #[.slice p l.length c] w fun e w' => ∃ tg mg, e = .returned (.tuple #[.pointer (some ⟨tg, 0, none⟩), .int .i64 0]) ∧ S w' ([Ob tg (.cells #[.int .i64 ((l.length : Int)), .int .i64 (((tallN l.length) : Int)), .string ((rootS l).1), .map (some mg)] 96 (0, 0)), Mp placeV Value.string placeOk mg (lvM l ((tallN l.length) + 1))] ++ [Old w no]) :=
  (of_s l p c hm w hr).mono fun e w' h => by
    rcases h with ⟨_, h⟩ | ⟨h, _⟩
    · exact h
    · exact absurd hce h
theorem of_r_ok {l : List ByteArray} {p : Option Addr} {c : Nat} (hce : checkE l = 0) (hm : l.length ≤ 1099511627776) (w : World) (hr : Reads w p l.length c 1 (stV l)) : Calls Try.prog 31 #[.slice p l.length c] w fun e w' => ∃ tg mg, e = .returned (.tuple #[.pointer (some ⟨tg, 0, none⟩), .int .i64 0]) ∧ S w' ([Ob tg (.cells #[.int .i64 ((l.length : Int)), .int .i64 (((tallN l.length) : Int)), .map (some mg)] 100 (0, 0)), Mp placeV Value.string placeOk mg (ofR l (newR l.length (tallN l.length) (rootS l).1) ((tallN l.length) + 1))] ++ [Old w no]) :=
  (of_r l p c hm w hr).mono fun e w' h => by
    rcases h with ⟨_, h⟩ | ⟨h, _⟩
    · exact h
    · exact absurd hce h
theorem lv_leaf {l : List ByteArray} (hce : checkE l = 0) : ∀ j, j < l.length → lvM l (tallN l.length + 1) (0, j) = some (nodeT l 0 j) := fun j hj => by
  obtain ⟨h1, h2, h3⟩ := check_spec hce
  obtain ⟨t1, _, _⟩ := tall_spec (n := l.length) (by omega)
  rw [lvM_get h1 _ _ _ (by omega) (by rw [count_zero h1]; exact hj), nodeT_S h1 (by omega) (by omega) (by rw [Nat.sub_zero]; omega)]
  unfold nodeS
  rw [if_pos (by exact hj)]
theorem node_leaf {l : List ByteArray} (hce : checkE l = 0) {j : Nat} (hj : j < l.length) : nodeT l 0 j = l.getD j ⟨#[]⟩ := by
  obtain ⟨h1, h2, h3⟩ := check_spec hce
  obtain ⟨t1, _, _⟩ := tall_spec (n := l.length) (by omega)
  rw [nodeT_S h1 (by omega) (by omega) (by rw [Nat.sub_zero]; omega)]
  unfold nodeS
  rw [if_pos (by exact hj)]; rfl
theorem block_right {s : ByteArray} {i : Nat} (h2 : s.size ≤ 1000) (h : (leavesS s).2 = 0) (hi : i < (leavesS s).1.length) : blockV (leavesS s).1.length (tallN (leavesS s).1.length) (nodeT (leavesS s).1 0) (i : Int) (chunkB s i) = 0 := by
  obtain ⟨h1, e⟩ := leaves_ok h2 h
  have hce := leaves_check h1 h2
  obtain ⟨t1, _, _⟩ := tall_spec (n := (leavesS s).1.length) (by obtain ⟨_, a, _⟩ := check_spec hce; omega)
  have hlen : (leavesS s).1.length = (s.size + 15) / 16 := by rw [e, leafTo_len]
  have hz := chunkB_size (s := s) (k := i) (by omega)
  unfold blockV
  rw [if_pos (nodeOk_t (by omega) (by omega) (by omega) (by show (i : Int) < ((2 ^ (tallN (leavesS s).1.length - 0) : Nat) : Int); rw [Nat.sub_zero]; omega)), if_neg (by omega), if_neg (by omega), Int.toNat_natCast, node_leaf hce hi, if_pos]
  rw [e]
  unfold leafTo
  rw [List.getD_eq_getElem?_getD, List.getElem?_map, List.getElem?_range (by omega)]; rfl
set_option maxRecDepth 20000 in
set_option maxHeartbeats 4000000 in
set_option maxRecDepth 20000 in
set_option maxHeartbeats 4000000 in
theorem blocks_law (s : ByteArray) (i0 : Int) (b : ByteArray) (w : World) : Calls Try.prog 7 #[.string s, .int .i64 i0, .string b] w fun e w' => e = .returned (.bool true) ∧ S w' [Old w no] := by
  have H0 := S.old w
  refine enter 110 Try.func7 rfl rfl rfl ?_
  refine g_weak [(0, .string s), (1, .int .i64 i0), (2, .string b)] ⟨rfl, rfl, rfl, trivial⟩ ?_
  refine g_seq ?_
  refine g_region ?_
  refine l_of (s_val (v := .bool false) (wt0 rfl) rfl rfl (x_assign rfl rfl) ?_)
  refine g_nil ?_
  refine g_then ?_
  refine g_seq ?_
  refine g_seq ?_
  refine g_region ?_
  refine l_of (s_val (v := .string s) (wt0 rfl) rfl rfl (x_move rfl rfl) ?_)
  refine l_of (s_val (v := .int .i64 ((s.size : Int))) (wt0 rfl) rfl rfl (x_lens rfl rfl Try.underlying9) ?_)
  refine l_of (s_val (v := .bool (decide ((1000 : Int) < (s.size : Int)))) (wt0 rfl) rfl rfl (x_bin rfl rfl rfl b_gtr) ?_)
  refine l_of (s_val (v := .bool (decide ((1000 : Int) < (s.size : Int)))) (wt0 rfl) rfl rfl (x_move rfl rfl) ?_)
  by_cases hb1 : (1000 : Int) < (s.size : Int)
  · skip
    refine l_of (s_not (wn1 rfl rfl rfl rfl (decide_eq_true hb1)) rfl rfl ?_)
    refine l_of (s_not (wn1 rfl rfl rfl rfl (decide_eq_true hb1)) rfl rfl ?_)
    refine l_of (s_not (wn1 rfl rfl rfl rfl (decide_eq_true hb1)) rfl rfl ?_)
    refine l_of (s_val (v := .bool true) (wt0 rfl) rfl rfl (x_pick_t rfl rfl (decide_eq_true hb1) rfl) ?_)
    refine g_nil ?_
    refine g_then ?_
    refine g_cond_t rfl rfl ?_
    refine g_seq ?_
    refine g_region ?_
    refine l_of (s_call (wt0 rfl) (x_call' rfl rfl cl10) (awake_s _) ?_)
    rintro _ wq2 ⟨rfl, H3⟩
    replace H3 : S wq2 [Old w no] := H0.absorb (new := []) H3
    refine b_ret rfl rfl ?_
    refine l_of (s_val (v := .bool true) (wt0 rfl) rfl rfl (x_assign rfl rfl) ?_)
    refine g_nil ?_
    refine g_then ?_
    refine g_weak [(6, .bool true)] ⟨rfl, trivial⟩ ?_
    refine g_ret ?_
    refine g_then_ret ?_
    refine fin_ret [.tmp 6] [.bool true] rfl ⟨rfl, trivial⟩ ?_
    exact ⟨rfl, H3.mask [true]⟩
  · skip
    refine l_of (s_val (v := .string b) (wt1 rfl rfl rfl rfl (decide_eq_false hb1)) rfl rfl (x_move rfl rfl) ?_)
    refine l_of (s_val (v := .int .i64 ((b.size : Int))) (wt1 rfl rfl rfl rfl (decide_eq_false hb1)) rfl rfl (x_lens rfl rfl Try.underlying9) ?_)
    refine l_of (s_val (v := .bool (decide ((100 : Int) < (b.size : Int)))) (wt1 rfl rfl rfl rfl (decide_eq_false hb1)) rfl rfl (x_bin rfl rfl rfl b_gtr) ?_)
    refine l_of (s_val (v := .bool (decide ((100 : Int) < (b.size : Int)))) (wt0 rfl) rfl rfl (x_pick_f rfl rfl (decide_eq_false hb1) rfl) ?_)
    refine g_nil ?_
    refine g_then ?_
    by_cases hb4 : (100 : Int) < (b.size : Int)
    · skip
      refine g_cond_t rfl (decide_eq_true hb4) ?_
      refine g_seq ?_
      refine g_region ?_
      refine l_of (s_call (wt0 rfl) (x_call' rfl rfl cl10) (awake_s _) ?_)
      rintro _ wq5 ⟨rfl, H6⟩
      replace H6 : S wq5 [Old w no] := H0.absorb (new := []) H6
      refine b_ret rfl rfl ?_
      refine l_of (s_val (v := .bool true) (wt0 rfl) rfl rfl (x_assign rfl rfl) ?_)
      refine g_nil ?_
      refine g_then ?_
      refine g_weak [(6, .bool true)] ⟨rfl, trivial⟩ ?_
      refine g_ret ?_
      refine g_then_ret ?_
      refine fin_ret [.tmp 6] [.bool true] rfl ⟨rfl, trivial⟩ ?_
      exact ⟨rfl, H6.mask [true]⟩
    · skip
      refine g_cond_f rfl (decide_eq_false hb4) ?_
      refine g_skip ?_
      refine g_then ?_
      refine g_seq ?_
      refine g_region ?_
      refine l_of (s_val (v := .string s) (wt0 rfl) rfl rfl (x_move rfl rfl) ?_)
      refine l_of (s_call (wt0 rfl) (x_call' rfl rfl cl13) (leaves_s s _) ?_)
      rintro _ wq9 ⟨p7, c8, rfl, H10⟩
      replace H10 : S wq9 [Rw 9 1 p7 (leavesS s).1.length c8 (stV (leavesS s).1), Old w no] := H0.absorb (new := [Rw 9 1 p7 (leavesS s).1.length c8 (stV (leavesS s).1)]) H10
      refine b_ret rfl rfl ?_
      refine l_of (s_val (v := .tuple #[.slice p7 (leavesS s).1.length c8, .int .i64 ((leavesS s).2)]) (wt0 rfl) rfl rfl (x_move rfl rfl) ?_)
      refine l_of (s_val (v := .slice p7 (leavesS s).1.length c8) (wt0 rfl) rfl rfl (x_extract rfl rfl rfl) ?_)
      refine l_of (s_val (v := .int .i64 ((leavesS s).2)) (wt0 rfl) rfl rfl (x_extract rfl rfl rfl) ?_)
      refine l_of (s_val (v := .slice p7 (leavesS s).1.length c8) (wt0 rfl) rfl rfl (x_assign rfl rfl) ?_)
      refine l_of (s_val (v := .int .i64 ((leavesS s).2)) (wt0 rfl) rfl rfl (x_assign rfl rfl) ?_)
      refine g_nil ?_
      refine g_then ?_
      refine g_weak [(0, .string s), (1, .int .i64 i0), (2, .string b), (7, .slice p7 (leavesS s).1.length c8), (8, .int .i64 ((leavesS s).2))] ⟨rfl, rfl, rfl, rfl, rfl, trivial⟩ ?_
      refine g_seq ?_
      refine g_seq ?_
      refine g_region ?_
      refine l_of (s_val (v := .int .i64 ((leavesS s).2)) (wt0 rfl) rfl rfl (x_move rfl rfl) ?_)
      refine l_of (s_val (v := .bool (!decide (((leavesS s).2 : Int) = 0))) (wt0 rfl) rfl rfl (x_bin rfl rfl rfl b_neq) ?_)
      refine g_nil ?_
      refine g_then ?_
      by_cases hb11 : ((leavesS s).2 : Int) = 0
      · skip
        obtain ⟨hs0, hse⟩ := leaves_ok (s := s) (by omega) (by omega)
        have hce := leaves_check hs0 (by omega)
        obtain ⟨hc1, hc2, hc3⟩ := check_spec hce
        have ht12 := tall_le12 hc2
        have hlen : (leavesS s).1.length = (s.size + 15) / 16 := by rw [hse, leafTo_len]
        refine g_cond_f rfl (nf hb11) ?_
        refine g_skip ?_
        refine g_then ?_
        refine g_seq ?_
        refine g_region ?_
        refine l_of (s_val (v := .slice p7 (leavesS s).1.length c8) (wt0 rfl) rfl rfl (x_move rfl rfl) ?_)
        refine l_of (s_call (wt0 rfl) (x_call' rfl rfl cl30) (of_s_ok hce (by omega) _ (H10.rwReads (k := 0) rfl)) ?_)
        rintro _ wq14 ⟨tg12, mg13, rfl, H15⟩
        replace H15 : S wq14 [Ob tg12 (.cells #[.int .i64 (((leavesS s).1.length : Int)), .int .i64 (((tallN (leavesS s).1.length) : Int)), .string ((rootS (leavesS s).1).1), .map (some mg13)] 96 (0, 0)), Mp placeV Value.string placeOk mg13 (lvM (leavesS s).1 ((tallN (leavesS s).1.length) + 1)), Rw 9 1 p7 (leavesS s).1.length c8 (stV (leavesS s).1), Old w no] := H10.absorb (new := [Ob tg12 (.cells #[.int .i64 (((leavesS s).1.length : Int)), .int .i64 (((tallN (leavesS s).1.length) : Int)), .string ((rootS (leavesS s).1).1), .map (some mg13)] 96 (0, 0)), Mp placeV Value.string placeOk mg13 (lvM (leavesS s).1 ((tallN (leavesS s).1.length) + 1))]) H15
        refine b_ret rfl rfl ?_
        refine l_of (s_val (v := .tuple #[.pointer (some ⟨tg12, 0, none⟩), .int .i64 0]) (wt0 rfl) rfl rfl (x_move rfl rfl) ?_)
        refine l_of (s_val (v := .pointer (some ⟨tg12, 0, none⟩)) (wt0 rfl) rfl rfl (x_extract rfl rfl rfl) ?_)
        refine l_of (s_val (v := .int .i64 0) (wt0 rfl) rfl rfl (x_extract rfl rfl rfl) ?_)
        refine l_of (s_val (v := .pointer (some ⟨tg12, 0, none⟩)) (wt0 rfl) rfl rfl (x_assign rfl rfl) ?_)
        refine l_of (s_val (v := .int .i64 0) (wt0 rfl) rfl rfl (x_assign rfl rfl) ?_)
        refine g_nil ?_
        refine g_then ?_
        refine g_seq ?_
        refine g_region ?_
        refine l_of (s_val (v := .slice p7 (leavesS s).1.length c8) (wt0 rfl) rfl rfl (x_move rfl rfl) ?_)
        refine l_of (s_call (wt0 rfl) (x_call' rfl rfl cl31) (of_r_ok hce (by omega) _ (H15.rwReads (k := 2) rfl)) ?_)
        rintro _ wq18 ⟨tg16, mg17, rfl, H19⟩
        replace H19 : S wq18 [Ob tg16 (.cells #[.int .i64 (((leavesS s).1.length : Int)), .int .i64 (((tallN (leavesS s).1.length) : Int)), .map (some mg17)] 100 (0, 0)), Mp placeV Value.string placeOk mg17 (ofR (leavesS s).1 (newR (leavesS s).1.length (tallN (leavesS s).1.length) (rootS (leavesS s).1).1) ((tallN (leavesS s).1.length) + 1)), Ob tg12 (.cells #[.int .i64 (((leavesS s).1.length : Int)), .int .i64 (((tallN (leavesS s).1.length) : Int)), .string ((rootS (leavesS s).1).1), .map (some mg13)] 96 (0, 0)), Mp placeV Value.string placeOk mg13 (lvM (leavesS s).1 ((tallN (leavesS s).1.length) + 1)), Rw 9 1 p7 (leavesS s).1.length c8 (stV (leavesS s).1), Old w no] := H15.absorb (new := [Ob tg16 (.cells #[.int .i64 (((leavesS s).1.length : Int)), .int .i64 (((tallN (leavesS s).1.length) : Int)), .map (some mg17)] 100 (0, 0)), Mp placeV Value.string placeOk mg17 (ofR (leavesS s).1 (newR (leavesS s).1.length (tallN (leavesS s).1.length) (rootS (leavesS s).1).1) ((tallN (leavesS s).1.length) + 1))]) H19
        refine b_ret rfl rfl ?_
        refine l_of (s_val (v := .tuple #[.pointer (some ⟨tg16, 0, none⟩), .int .i64 0]) (wt0 rfl) rfl rfl (x_move rfl rfl) ?_)
        refine l_of (s_val (v := .pointer (some ⟨tg16, 0, none⟩)) (wt0 rfl) rfl rfl (x_extract rfl rfl rfl) ?_)
        refine l_of (s_val (v := .int .i64 0) (wt0 rfl) rfl rfl (x_extract rfl rfl rfl) ?_)
        refine l_of (s_val (v := .pointer (some ⟨tg16, 0, none⟩)) (wt0 rfl) rfl rfl (x_assign rfl rfl) ?_)
        refine l_of (s_val (v := .int .i64 0) (wt0 rfl) rfl rfl (x_assign rfl rfl) ?_)
        refine g_nil ?_
        refine g_then ?_
        refine g_weak [(0, .string s), (1, .int .i64 i0), (2, .string b), (7, .slice p7 (leavesS s).1.length c8), (8, .int .i64 0), (9, .pointer (some ⟨tg12, 0, none⟩)), (10, .pointer (some ⟨tg16, 0, none⟩)), (11, .int .i64 0)] ⟨rfl, rfl, rfl, rfl, rfl, rfl, rfl, rfl, trivial⟩ ?_
        refine g_seq ?_
        refine g_seq ?_
        refine g_region ?_
        refine l_of (s_val (v := .int .i64 0) (wt0 rfl) rfl rfl (x_move rfl rfl) ?_)
        refine l_of (s_val (v := .int .i64 0) (wt0 rfl) rfl rfl (x_move rfl rfl) ?_)
        refine l_of (s_val (v := .bool (!decide ((0 : Int) = 0))) (wt0 rfl) rfl rfl (x_bin rfl rfl rfl b_neq) ?_)
        refine l_of (s_val (v := .bool (!decide ((0 : Int) = 0))) (wt0 rfl) rfl rfl (x_move rfl rfl) ?_)
        refine l_of (s_val (v := .int .i64 0) (wt1 rfl rfl rfl rfl (nf rfl)) rfl rfl (x_move rfl rfl) ?_)
        refine l_of (s_val (v := .bool (!decide ((0 : Int) = 0))) (wt1 rfl rfl rfl rfl (nf rfl)) rfl rfl (x_bin rfl rfl rfl b_neq) ?_)
        refine l_of (s_val (v := .bool (!decide ((0 : Int) = 0))) (wt0 rfl) rfl rfl (x_pick_f rfl rfl (nf rfl) rfl) ?_)
        refine l_of (s_val (v := .bool (!decide ((0 : Int) = 0))) (wt0 rfl) rfl rfl (x_move rfl rfl) ?_)
        refine l_of (s_val (v := .pointer (some ⟨tg12, 0, none⟩)) (wt1 rfl rfl rfl rfl (nf rfl)) rfl rfl (x_move rfl rfl) ?_)
        refine l_of (s_val (v := .bool false) (wt1 rfl rfl rfl rfl (nf rfl)) rfl rfl (x_bin rfl rfl rfl (b_eqN (r := false) Try.underlying43 rfl)) ?_)
        refine l_of (s_val (v := .bool false) (wt0 rfl) rfl rfl (x_pick_f rfl rfl (nf rfl) rfl) ?_)
        refine g_nil ?_
        refine g_then ?_
        refine g_weak [(0, .string s), (1, .int .i64 i0), (2, .string b), (7, .slice p7 (leavesS s).1.length c8), (9, .pointer (some ⟨tg12, 0, none⟩)), (10, .pointer (some ⟨tg16, 0, none⟩)), (59, .bool false)] ⟨rfl, rfl, rfl, rfl, rfl, rfl, rfl, trivial⟩ ?_
        refine g_cond_f rfl rfl ?_
        refine g_skip ?_
        refine g_then ?_
        refine g_seq ?_
        refine g_seq ?_
        refine g_region ?_
        refine l_of (s_val (v := .pointer (some ⟨tg12, 0, none⟩)) (wt0 rfl) rfl rfl (x_move rfl rfl) ?_)
        refine l_of (s_val (v := .int .i64 i0) (wt0 rfl) rfl rfl (x_move rfl rfl) ?_)
        refine l_of (s_val (v := .string b) (wt0 rfl) rfl rfl (x_move rfl rfl) ?_)
        have hbk20 := block_s tg12 mg13 (leavesS s).1.length (tallN (leavesS s).1.length) (rootS (leavesS s).1).1 (lvM (leavesS s).1 ((tallN (leavesS s).1.length) + 1)) (nodeT (leavesS s).1 0) i0 b hc1 (by omega) ht12 (lv_leaf hce) wq18 (H19.takes [2, 3] (by decide))
        refine l_of (s_call (wt0 rfl) (x_call' rfl rfl cl32) (hbk20) ?_)
        rintro _ wq21 ⟨rfl, H22⟩
        replace H22 : S wq21 [Ob tg12 (.cells #[.int .i64 (((leavesS s).1.length : Int)), .int .i64 (((tallN (leavesS s).1.length) : Int)), .string ((rootS (leavesS s).1).1), .map (some mg13)] 96 (0, 0)), Mp placeV Value.string placeOk mg13 (lvM (leavesS s).1 ((tallN (leavesS s).1.length) + 1)), Ob tg16 (.cells #[.int .i64 (((leavesS s).1.length : Int)), .int .i64 (((tallN (leavesS s).1.length) : Int)), .map (some mg17)] 100 (0, 0)), Mp placeV Value.string placeOk mg17 (ofR (leavesS s).1 (newR (leavesS s).1.length (tallN (leavesS s).1.length) (rootS (leavesS s).1).1) ((tallN (leavesS s).1.length) + 1)), Rw 9 1 p7 (leavesS s).1.length c8 (stV (leavesS s).1), Old w no] := H19.absorbI (new := [Ob tg12 (.cells #[.int .i64 (((leavesS s).1.length : Int)), .int .i64 (((tallN (leavesS s).1.length) : Int)), .string ((rootS (leavesS s).1).1), .map (some mg13)] 96 (0, 0)), Mp placeV Value.string placeOk mg13 (lvM (leavesS s).1 ((tallN (leavesS s).1.length) + 1))]) [2, 3] H22
        refine b_ret rfl rfl ?_
        refine l_of (s_val (v := .pointer (some ⟨tg16, 0, none⟩)) (wt0 rfl) rfl rfl (x_move rfl rfl) ?_)
        refine l_of (s_val (v := .int .i64 i0) (wt0 rfl) rfl rfl (x_move rfl rfl) ?_)
        refine l_of (s_val (v := .string b) (wt0 rfl) rfl rfl (x_move rfl rfl) ?_)
        refine l_of (s_call (wt0 rfl) (x_call' rfl rfl cl33) (block_r tg16 mg17 (leavesS s).1.length (tallN (leavesS s).1.length) (ofR (leavesS s).1 (newR (leavesS s).1.length (tallN (leavesS s).1.length) (rootS (leavesS s).1).1) ((tallN (leavesS s).1.length) + 1)) (nodeT (leavesS s).1 0) i0 b ht12 (fun j hj => ofR_get (by omega) _ _ _ (Nat.le_refl _) (by omega) (by rw [Nat.sub_zero]; exact hj)) _ (H22.takes [2, 3] (by decide))) ?_)
        rintro _ wq23 ⟨rfl, H24⟩
        replace H24 : S wq23 [Ob tg16 (.cells #[.int .i64 (((leavesS s).1.length : Int)), .int .i64 (((tallN (leavesS s).1.length) : Int)), .map (some mg17)] 100 (0, 0)), Mp placeV Value.string placeOk mg17 (ofR (leavesS s).1 (newR (leavesS s).1.length (tallN (leavesS s).1.length) (rootS (leavesS s).1).1) ((tallN (leavesS s).1.length) + 1)), Ob tg12 (.cells #[.int .i64 (((leavesS s).1.length : Int)), .int .i64 (((tallN (leavesS s).1.length) : Int)), .string ((rootS (leavesS s).1).1), .map (some mg13)] 96 (0, 0)), Mp placeV Value.string placeOk mg13 (lvM (leavesS s).1 ((tallN (leavesS s).1.length) + 1)), Rw 9 1 p7 (leavesS s).1.length c8 (stV (leavesS s).1), Old w no] := H22.absorbI (new := [Ob tg16 (.cells #[.int .i64 (((leavesS s).1.length : Int)), .int .i64 (((tallN (leavesS s).1.length) : Int)), .map (some mg17)] 100 (0, 0)), Mp placeV Value.string placeOk mg17 (ofR (leavesS s).1 (newR (leavesS s).1.length (tallN (leavesS s).1.length) (rootS (leavesS s).1).1) ((tallN (leavesS s).1.length) + 1))]) [2, 3] H24
        refine b_ret rfl rfl ?_
        refine l_of (s_val (v := .bool (!decide (((blockV (leavesS s).1.length (tallN (leavesS s).1.length) (nodeT (leavesS s).1 0) i0 b) : Int) = (blockV (leavesS s).1.length (tallN (leavesS s).1.length) (nodeT (leavesS s).1 0) i0 b)))) (wt0 rfl) rfl rfl (x_bin rfl rfl rfl b_neq) ?_)
        refine g_nil ?_
        refine g_then ?_
        refine g_weak [(0, .string s), (7, .slice p7 (leavesS s).1.length c8), (9, .pointer (some ⟨tg12, 0, none⟩)), (68, .bool (!decide (((blockV (leavesS s).1.length (tallN (leavesS s).1.length) (nodeT (leavesS s).1 0) i0 b) : Int) = (blockV (leavesS s).1.length (tallN (leavesS s).1.length) (nodeT (leavesS s).1 0) i0 b))))] ⟨rfl, rfl, rfl, rfl, trivial⟩ ?_
        refine g_cond_f rfl (nf rfl) ?_
        refine g_skip ?_
        refine g_then ?_
        refine g_seq ?_
        refine g_seq ?_
        refine g_region ?_
        refine l_of (s_val (v := .slice p7 (leavesS s).1.length c8) (wt0 rfl) rfl rfl (x_move rfl rfl) ?_)
        refine l_of (s_val (v := .int .i64 (((leavesS s).1.length : Int))) (wt0 rfl) rfl rfl (x_lenl rfl rfl Try.underlying22) ?_)
        refine l_of (s_val (v := .int .i64 0) (wt0 rfl) rfl rfl (x_move rfl rfl) ?_)
        refine g_nil ?_
        refine g_then ?_
        refine g_block ?_
        refine g_loop (ι := Nat) (fun i => [(0, .string s), (9, .pointer (some ⟨tg12, 0, none⟩)), (70, .int .i64 (((leavesS s).1.length : Int))), (71, .int .i64 ((i : Int)))]) (fun i wx => (i ≤ (leavesS s).1.length) ∧ S wx [Ob tg16 (.cells #[.int .i64 (((leavesS s).1.length : Int)), .int .i64 (((tallN (leavesS s).1.length) : Int)), .map (some mg17)] 100 (0, 0)), Mp placeV Value.string placeOk mg17 (ofR (leavesS s).1 (newR (leavesS s).1.length (tallN (leavesS s).1.length) (rootS (leavesS s).1).1) ((tallN (leavesS s).1.length) + 1)), Ob tg12 (.cells #[.int .i64 (((leavesS s).1.length : Int)), .int .i64 (((tallN (leavesS s).1.length) : Int)), .string ((rootS (leavesS s).1).1), .map (some mg13)] 96 (0, 0)), Mp placeV Value.string placeOk mg13 (lvM (leavesS s).1 ((tallN (leavesS s).1.length) + 1)), Rw 9 1 p7 (leavesS s).1.length c8 (stV (leavesS s).1), Old w no]) (fun i => (leavesS s).1.length - i) (0) ⟨rfl, rfl, rfl, rfl, trivial⟩ ⟨Nat.zero_le _, H24⟩ ?_
        rintro i wq25 ⟨hi, H26⟩
        replace H26 : S wq25 [Ob tg16 (.cells #[.int .i64 (((leavesS s).1.length : Int)), .int .i64 (((tallN (leavesS s).1.length) : Int)), .map (some mg17)] 100 (0, 0)), Mp placeV Value.string placeOk mg17 (ofR (leavesS s).1 (newR (leavesS s).1.length (tallN (leavesS s).1.length) (rootS (leavesS s).1).1) ((tallN (leavesS s).1.length) + 1)), Ob tg12 (.cells #[.int .i64 (((leavesS s).1.length : Int)), .int .i64 (((tallN (leavesS s).1.length) : Int)), .string ((rootS (leavesS s).1).1), .map (some mg13)] 96 (0, 0)), Mp placeV Value.string placeOk mg13 (lvM (leavesS s).1 ((tallN (leavesS s).1.length) + 1)), Rw 9 1 p7 (leavesS s).1.length c8 (stV (leavesS s).1), Old w no] := H26
        refine g_weak [(0, .string s), (9, .pointer (some ⟨tg12, 0, none⟩)), (70, .int .i64 (((leavesS s).1.length : Int))), (71, .int .i64 ((i : Int)))] ⟨rfl, rfl, rfl, rfl, trivial⟩ ?_
        refine g_seq ?_
        refine g_region ?_
        refine l_of (s_val (v := .bool (decide (((i : Int) : Int) < ((leavesS s).1.length : Int)))) (wt0 rfl) rfl rfl (x_bin rfl rfl rfl b_lss) ?_)
        refine g_nil ?_
        refine g_then ?_
        refine g_seq ?_
        by_cases hb27 : ((i : Int) : Int) < ((leavesS s).1.length : Int)
        · skip
          refine g_cond_t rfl (decide_eq_true hb27) ?_
          refine g_skip ?_
          refine g_then ?_
          refine g_seq ?_
          refine g_block ?_
          refine g_seq ?_
          refine g_region ?_
          refine l_of (s_val (v := .int .i64 ((i : Int))) (wt0 rfl) rfl rfl (x_move rfl rfl) ?_)
          refine l_of (s_val (v := .int .i64 ((i : Int))) (wt0 rfl) rfl rfl (x_assign rfl rfl) ?_)
          refine g_nil ?_
          refine g_then ?_
          refine g_seq ?_
          refine g_region ?_
          refine l_of (s_val (v := .pointer (some ⟨tg12, 0, none⟩)) (wt0 rfl) rfl rfl (x_move rfl rfl) ?_)
          refine l_of (s_val (v := .int .i64 ((i : Int))) (wt0 rfl) rfl rfl (x_move rfl rfl) ?_)
          refine l_of (s_val (v := .string s) (wt0 rfl) rfl rfl (x_move rfl rfl) ?_)
          refine l_of (s_val (v := .int .i64 ((i : Int))) (wt0 rfl) rfl rfl (x_move rfl rfl) ?_)
          refine l_of (s_val (v := .int .i64 (((16 * i : Nat) : Int))) (wt0 rfl) rfl rfl (x_bin rfl rfl rfl (b_mulN (a := 16) (b := i) (by omega))) ?_)
          refine l_of (s_val (v := .int .i64 ((i : Int))) (wt0 rfl) rfl rfl (x_move rfl rfl) ?_)
          refine l_of (s_val (v := .int .i64 (((16 * i : Nat) : Int))) (wt0 rfl) rfl rfl (x_bin rfl rfl rfl (b_mulN (a := 16) (b := i) (by omega))) ?_)
          refine l_of (s_val (v := .int .i64 (((16 * i + 16 : Nat) : Int))) (wt0 rfl) rfl rfl (x_bin rfl rfl rfl (b_addN (a := 16 * i) (b := 16) (by omega))) ?_)
          refine l_of (s_val (v := .string s) (wt0 rfl) rfl rfl (x_move rfl rfl) ?_)
          refine l_of (s_val (v := .int .i64 ((s.size : Int))) (wt0 rfl) rfl rfl (x_lens rfl rfl Try.underlying9) ?_)
          refine l_of (s_val (v := .int .i64 (((min (16 * i + 16) s.size : Nat) : Int))) (wt0 rfl) rfl rfl (ex_cast (x_min rfl rfl rfl) (congrArg (Value.int .i64) (show _ = ((min (16 * i + 16) s.size : Nat) : Int) by omega))) ?_)
          have hcz : (chunkB s i).size = min 16 (s.size - 16 * i) := chunkB_size (by omega)
          refine l_of (s_val (v := .string ((chunkB s i))) (wt0 rfl) rfl rfl (x_slices (16 * i) (min (16 * i + 16) s.size) rfl rfl Try.underlying9 (.inr ⟨_, _, _, rfl, rfl, by omega⟩) (.inr ⟨_, _, _, rfl, rfl, by omega⟩) (by omega)) ?_)
          have hbk28 := block_s tg12 mg13 (leavesS s).1.length (tallN (leavesS s).1.length) (rootS (leavesS s).1).1 (lvM (leavesS s).1 ((tallN (leavesS s).1.length) + 1)) (nodeT (leavesS s).1 0) (i : Int) (chunkB s i) hc1 (by omega) ht12 (lv_leaf hce) wq25 (H26.takes [2, 3] (by decide))
          rw [block_right (by omega) (by omega) (by omega)] at hbk28
          refine l_of (s_call (wt0 rfl) (x_call' rfl rfl cl32) (hbk28) ?_)
          rintro _ wq29 ⟨rfl, H30⟩
          replace H30 : S wq29 [Ob tg12 (.cells #[.int .i64 (((leavesS s).1.length : Int)), .int .i64 (((tallN (leavesS s).1.length) : Int)), .string ((rootS (leavesS s).1).1), .map (some mg13)] 96 (0, 0)), Mp placeV Value.string placeOk mg13 (lvM (leavesS s).1 ((tallN (leavesS s).1.length) + 1)), Ob tg16 (.cells #[.int .i64 (((leavesS s).1.length : Int)), .int .i64 (((tallN (leavesS s).1.length) : Int)), .map (some mg17)] 100 (0, 0)), Mp placeV Value.string placeOk mg17 (ofR (leavesS s).1 (newR (leavesS s).1.length (tallN (leavesS s).1.length) (rootS (leavesS s).1).1) ((tallN (leavesS s).1.length) + 1)), Rw 9 1 p7 (leavesS s).1.length c8 (stV (leavesS s).1), Old w no] := H26.absorbI (new := [Ob tg12 (.cells #[.int .i64 (((leavesS s).1.length : Int)), .int .i64 (((tallN (leavesS s).1.length) : Int)), .string ((rootS (leavesS s).1).1), .map (some mg13)] 96 (0, 0)), Mp placeV Value.string placeOk mg13 (lvM (leavesS s).1 ((tallN (leavesS s).1.length) + 1))]) [2, 3] H30
          refine b_ret rfl rfl ?_
          refine l_of (s_val (v := .bool (!decide ((0 : Int) = 0))) (wt0 rfl) rfl rfl (x_bin rfl rfl rfl b_neq) ?_)
          refine g_nil ?_
          refine g_then ?_
          refine g_weak [(0, .string s), (9, .pointer (some ⟨tg12, 0, none⟩)), (70, .int .i64 (((leavesS s).1.length : Int))), (71, .int .i64 ((i : Int))), (87, .bool (!decide ((0 : Int) = 0)))] ⟨rfl, rfl, rfl, rfl, rfl, trivial⟩ ?_
          refine g_cond_f rfl (nf rfl) ?_
          refine g_skip ?_
          refine g_in ?_
          refine g_then ?_
          refine g_region ?_
          refine l_of (s_val (v := .int .i64 ((i : Int) + 1)) (wt0 rfl) rfl rfl (x_bin rfl rfl rfl (b_add (w64 (by omega)))) ?_)
          refine l_of (s_val (v := .int .i64 ((i : Int) + 1)) (wt0 rfl) rfl rfl (x_move rfl rfl) ?_)
          refine g_nil ?_
          refine g_then ?_
          refine g_round (i := (i)) (i + 1) ?_ ?_ ?_
          · exact ⟨rfl, rfl, rfl, rfl, trivial⟩
          · exact ⟨by omega, (H30.takes [2, 3, 0, 1, 4, 5] (by decide))⟩
          · (try dsimp only); omega
        · skip
          refine g_cond_f rfl (decide_eq_false hb27) ?_
          refine g_exit ?_
          refine g_then_exit ?_
          refine g_then_exit ?_
          refine g_in_hit ?_
          refine g_then ?_
          refine g_seq ?_
          refine g_region ?_
          refine l_of (s_val (v := .pointer none) (wt0 rfl) rfl rfl (x_assign rfl rfl) ?_)
          refine g_nil ?_
          refine g_then ?_
          refine g_seq ?_
          refine g_region ?_
          refine l_of (s_val (v := .pointer none) (wt0 rfl) rfl rfl (x_move rfl rfl) ?_)
          refine l_of (s_call (wt0 rfl) (x_call' rfl rfl cl32) (block_nil _ _ _) ?_)
          rintro _ wq31 ⟨rfl, H32⟩
          replace H32 : S wq31 [Ob tg16 (.cells #[.int .i64 (((leavesS s).1.length : Int)), .int .i64 (((tallN (leavesS s).1.length) : Int)), .map (some mg17)] 100 (0, 0)), Mp placeV Value.string placeOk mg17 (ofR (leavesS s).1 (newR (leavesS s).1.length (tallN (leavesS s).1.length) (rootS (leavesS s).1).1) ((tallN (leavesS s).1.length) + 1)), Ob tg12 (.cells #[.int .i64 (((leavesS s).1.length : Int)), .int .i64 (((tallN (leavesS s).1.length) : Int)), .string ((rootS (leavesS s).1).1), .map (some mg13)] 96 (0, 0)), Mp placeV Value.string placeOk mg13 (lvM (leavesS s).1 ((tallN (leavesS s).1.length) + 1)), Rw 9 1 p7 (leavesS s).1.length c8 (stV (leavesS s).1), Old w no] := H26.absorb (new := []) H32
          refine b_ret rfl rfl ?_
          refine l_of (s_val (v := .bool (decide ((1 : Int) = 1))) (wt0 rfl) rfl rfl (x_bin rfl rfl rfl b_eql) ?_)
          refine l_of (s_val (v := .bool (decide ((1 : Int) = 1))) (wt0 rfl) rfl rfl (x_move rfl rfl) ?_)
          refine l_of (s_val (v := .pointer none) (wt1 rfl rfl rfl rfl (decide_eq_true rfl)) rfl rfl (x_move rfl rfl) ?_)
          refine l_of (s_call (wt1 rfl rfl rfl rfl (decide_eq_true rfl)) (x_call' rfl rfl cl34) (root_nil _) ?_)
          rintro _ wq33 ⟨rfl, H34⟩
          replace H34 : S wq33 [Ob tg16 (.cells #[.int .i64 (((leavesS s).1.length : Int)), .int .i64 (((tallN (leavesS s).1.length) : Int)), .map (some mg17)] 100 (0, 0)), Mp placeV Value.string placeOk mg17 (ofR (leavesS s).1 (newR (leavesS s).1.length (tallN (leavesS s).1.length) (rootS (leavesS s).1).1) ((tallN (leavesS s).1.length) + 1)), Ob tg12 (.cells #[.int .i64 (((leavesS s).1.length : Int)), .int .i64 (((tallN (leavesS s).1.length) : Int)), .string ((rootS (leavesS s).1).1), .map (some mg13)] 96 (0, 0)), Mp placeV Value.string placeOk mg13 (lvM (leavesS s).1 ((tallN (leavesS s).1.length) + 1)), Rw 9 1 p7 (leavesS s).1.length c8 (stV (leavesS s).1), Old w no] := H32.absorb (new := []) H34
          refine b_ret rfl rfl ?_
          refine l_of (s_val (v := .bool (decide ((⟨#[]⟩ : ByteArray) = ⟨#[]⟩))) (wt1 rfl rfl rfl rfl (decide_eq_true rfl)) rfl rfl (x_bin rfl rfl rfl b_eqs) ?_)
          refine l_of (s_val (v := .bool (decide ((⟨#[]⟩ : ByteArray) = ⟨#[]⟩))) (wt0 rfl) rfl rfl (x_pick_t rfl rfl (decide_eq_true rfl) rfl) ?_)
          refine l_of (s_val (v := .bool (decide ((⟨#[]⟩ : ByteArray) = ⟨#[]⟩))) (wt0 rfl) rfl rfl (x_move rfl rfl) ?_)
          by_cases hb35 : (⟨#[]⟩ : ByteArray) = ⟨#[]⟩
          · skip
            refine l_of (s_val (v := .pointer none) (wt1 rfl rfl rfl rfl (decide_eq_true hb35)) rfl rfl (x_move rfl rfl) ?_)
            refine l_of (s_call (wt1 rfl rfl rfl rfl (decide_eq_true hb35)) (x_call' rfl rfl cl35) (leaves_nil _) ?_)
            rintro _ wq36 ⟨rfl, H37⟩
            replace H37 : S wq36 [Ob tg16 (.cells #[.int .i64 (((leavesS s).1.length : Int)), .int .i64 (((tallN (leavesS s).1.length) : Int)), .map (some mg17)] 100 (0, 0)), Mp placeV Value.string placeOk mg17 (ofR (leavesS s).1 (newR (leavesS s).1.length (tallN (leavesS s).1.length) (rootS (leavesS s).1).1) ((tallN (leavesS s).1.length) + 1)), Ob tg12 (.cells #[.int .i64 (((leavesS s).1.length : Int)), .int .i64 (((tallN (leavesS s).1.length) : Int)), .string ((rootS (leavesS s).1).1), .map (some mg13)] 96 (0, 0)), Mp placeV Value.string placeOk mg13 (lvM (leavesS s).1 ((tallN (leavesS s).1.length) + 1)), Rw 9 1 p7 (leavesS s).1.length c8 (stV (leavesS s).1), Old w no] := H34.absorb (new := []) H37
            refine b_ret rfl rfl ?_
            refine l_of (s_val (v := .bool (decide ((0 : Int) = 0))) (wt1 rfl rfl rfl rfl (decide_eq_true hb35)) rfl rfl (x_bin rfl rfl rfl b_eql) ?_)
            refine l_of (s_val (v := .bool (decide ((0 : Int) = 0))) (wt0 rfl) rfl rfl (x_pick_t rfl rfl (decide_eq_true hb35) rfl) ?_)
            refine l_of (s_val (v := .bool (decide ((0 : Int) = 0))) (wt0 rfl) rfl rfl (x_move rfl rfl) ?_)
            refine l_of (s_val (v := .pointer none) (wt1 rfl rfl rfl rfl (decide_eq_true rfl)) rfl rfl (x_move rfl rfl) ?_)
            refine l_of (s_call (wt1 rfl rfl rfl rfl (decide_eq_true rfl)) (x_call' rfl rfl cl36) (copy_nil _) ?_)
            rintro _ wq38 ⟨rfl, H39⟩
            replace H39 : S wq38 [Ob tg16 (.cells #[.int .i64 (((leavesS s).1.length : Int)), .int .i64 (((tallN (leavesS s).1.length) : Int)), .map (some mg17)] 100 (0, 0)), Mp placeV Value.string placeOk mg17 (ofR (leavesS s).1 (newR (leavesS s).1.length (tallN (leavesS s).1.length) (rootS (leavesS s).1).1) ((tallN (leavesS s).1.length) + 1)), Ob tg12 (.cells #[.int .i64 (((leavesS s).1.length : Int)), .int .i64 (((tallN (leavesS s).1.length) : Int)), .string ((rootS (leavesS s).1).1), .map (some mg13)] 96 (0, 0)), Mp placeV Value.string placeOk mg13 (lvM (leavesS s).1 ((tallN (leavesS s).1.length) + 1)), Rw 9 1 p7 (leavesS s).1.length c8 (stV (leavesS s).1), Old w no] := H37.absorb (new := []) H39
            refine b_ret rfl rfl ?_
            refine l_of (s_val (v := .bool true) (wt1 rfl rfl rfl rfl (decide_eq_true rfl)) rfl rfl (x_bin rfl rfl rfl (b_eqN (r := true) Try.underlying43 rfl)) ?_)
            refine l_of (s_val (v := .bool true) (wt0 rfl) rfl rfl (x_pick_t rfl rfl (decide_eq_true rfl) rfl) ?_)
            refine l_of (s_val (v := .bool true) (wt0 rfl) rfl rfl (x_move rfl rfl) ?_)
            refine l_of (s_call (wt1 rfl rfl rfl rfl rfl) (x_call' rfl rfl cl10) (awake_s _) ?_)
            rintro _ wq40 ⟨rfl, H41⟩
            replace H41 : S wq40 [Ob tg16 (.cells #[.int .i64 (((leavesS s).1.length : Int)), .int .i64 (((tallN (leavesS s).1.length) : Int)), .map (some mg17)] 100 (0, 0)), Mp placeV Value.string placeOk mg17 (ofR (leavesS s).1 (newR (leavesS s).1.length (tallN (leavesS s).1.length) (rootS (leavesS s).1).1) ((tallN (leavesS s).1.length) + 1)), Ob tg12 (.cells #[.int .i64 (((leavesS s).1.length : Int)), .int .i64 (((tallN (leavesS s).1.length) : Int)), .string ((rootS (leavesS s).1).1), .map (some mg13)] 96 (0, 0)), Mp placeV Value.string placeOk mg13 (lvM (leavesS s).1 ((tallN (leavesS s).1.length) + 1)), Rw 9 1 p7 (leavesS s).1.length c8 (stV (leavesS s).1), Old w no] := H39.absorb (new := []) H41
            refine b_ret rfl rfl ?_
            refine l_of (s_val (v := .bool true) (wt0 rfl) rfl rfl (x_pick_t rfl rfl rfl rfl) ?_)
            refine l_of (s_val (v := .bool true) (wt0 rfl) rfl rfl (x_assign rfl rfl) ?_)
            refine g_nil ?_
            refine g_then ?_
            refine g_weak [(6, .bool true)] ⟨rfl, trivial⟩ ?_
            refine g_ret ?_
            refine fin_ret [.tmp 6] [.bool true] rfl ⟨rfl, trivial⟩ ?_
            exact ⟨rfl, H41.mask [false, false, false, false, false, true]⟩
          · skip
            refine l_of (s_not (wn1 rfl rfl rfl rfl (decide_eq_false hb35)) rfl rfl ?_)
            refine l_of (s_not (wn1 rfl rfl rfl rfl (decide_eq_false hb35)) rfl rfl ?_)
            refine l_of (s_not (wn1 rfl rfl rfl rfl (decide_eq_false hb35)) rfl rfl ?_)
            refine l_of (s_val (v := .bool false) (wt0 rfl) rfl rfl (x_pick_f rfl rfl (decide_eq_false hb35) rfl) ?_)
            refine l_of (s_val (v := .bool false) (wt0 rfl) rfl rfl (x_move rfl rfl) ?_)
            refine l_of (s_not (wn1 rfl rfl rfl rfl rfl) rfl rfl ?_)
            refine l_of (s_not (wn1 rfl rfl rfl rfl rfl) rfl rfl ?_)
            refine l_of (s_not (wn1 rfl rfl rfl rfl rfl) rfl rfl ?_)
            refine l_of (s_val (v := .bool false) (wt0 rfl) rfl rfl (x_pick_f rfl rfl rfl rfl) ?_)
            refine l_of (s_val (v := .bool false) (wt0 rfl) rfl rfl (x_move rfl rfl) ?_)
            refine l_of (s_not (wn1 rfl rfl rfl rfl rfl) rfl rfl ?_)
            refine l_of (s_val (v := .bool false) (wt0 rfl) rfl rfl (x_pick_f rfl rfl rfl rfl) ?_)
            refine l_of (s_val (v := .bool false) (wt0 rfl) rfl rfl (x_assign rfl rfl) ?_)
            refine g_nil ?_
            refine g_then ?_
            refine g_weak [(6, .bool false)] ⟨rfl, trivial⟩ ?_
            refine g_ret ?_
            refine fin_ret [.tmp 6] [.bool false] rfl ⟨rfl, trivial⟩ ?_
            exact absurd rfl hb35
      · skip
        obtain ⟨hs0, hs1⟩ := leaves_err (s := s) (by omega) (by omega)
        refine g_cond_t rfl (nt hb11) ?_
        refine g_seq ?_
        refine g_region ?_
        refine l_of (s_val (v := .string s) (wt0 rfl) rfl rfl (x_move rfl rfl) ?_)
        refine l_of (s_val (v := .bool (decide (s = ⟨#[]⟩))) (wt0 rfl) rfl rfl (x_bin rfl rfl rfl b_eqs) ?_)
        refine l_of (s_val (v := .bool (decide (s = ⟨#[]⟩))) (wt0 rfl) rfl rfl (x_move rfl rfl) ?_)
        by_cases hb42 : s = ⟨#[]⟩
        · skip
          refine l_of (s_val (v := .int .i64 ((leavesS s).2)) (wt1 rfl rfl rfl rfl (decide_eq_true hb42)) rfl rfl (x_move rfl rfl) ?_)
          refine l_of (s_val (v := .bool (decide (((leavesS s).2 : Int) = 11))) (wt1 rfl rfl rfl rfl (decide_eq_true hb42)) rfl rfl (x_bin rfl rfl rfl b_eql) ?_)
          refine l_of (s_val (v := .bool (decide (((leavesS s).2 : Int) = 11))) (wt0 rfl) rfl rfl (x_pick_t rfl rfl (decide_eq_true hb42) rfl) ?_)
          refine l_of (s_val (v := .bool (decide (((leavesS s).2 : Int) = 11))) (wt0 rfl) rfl rfl (x_move rfl rfl) ?_)
          by_cases hb43 : ((leavesS s).2 : Int) = 11
          · skip
            refine l_of (s_call (wt1 rfl rfl rfl rfl (decide_eq_true hb43)) (x_call' rfl rfl cl10) (awake_s _) ?_)
            rintro _ wq44 ⟨rfl, H45⟩
            replace H45 : S wq44 [Rw 9 1 p7 (leavesS s).1.length c8 (stV (leavesS s).1), Old w no] := H10.absorb (new := []) H45
            refine b_ret rfl rfl ?_
            refine l_of (s_val (v := .bool true) (wt0 rfl) rfl rfl (x_pick_t rfl rfl (decide_eq_true hb43) rfl) ?_)
            refine l_of (s_val (v := .bool true) (wt0 rfl) rfl rfl (x_assign rfl rfl) ?_)
            refine g_nil ?_
            refine g_then ?_
            refine g_weak [(6, .bool true)] ⟨rfl, trivial⟩ ?_
            refine g_ret ?_
            refine g_then_ret ?_
            refine fin_ret [.tmp 6] [.bool true] rfl ⟨rfl, trivial⟩ ?_
            exact ⟨rfl, H45.mask [false, true]⟩
          · skip
            refine l_of (s_not (wn1 rfl rfl rfl rfl (decide_eq_false hb43)) rfl rfl ?_)
            refine l_of (s_val (v := .bool false) (wt0 rfl) rfl rfl (x_pick_f rfl rfl (decide_eq_false hb43) rfl) ?_)
            refine l_of (s_val (v := .bool false) (wt0 rfl) rfl rfl (x_assign rfl rfl) ?_)
            refine g_nil ?_
            refine g_then ?_
            refine g_weak [(6, .bool false)] ⟨rfl, trivial⟩ ?_
            refine g_ret ?_
            refine g_then_ret ?_
            refine fin_ret [.tmp 6] [.bool false] rfl ⟨rfl, trivial⟩ ?_
            exact absurd hs1 hb43
        · skip
          refine l_of (s_not (wn1 rfl rfl rfl rfl (decide_eq_false hb42)) rfl rfl ?_)
          refine l_of (s_not (wn1 rfl rfl rfl rfl (decide_eq_false hb42)) rfl rfl ?_)
          refine l_of (s_val (v := .bool false) (wt0 rfl) rfl rfl (x_pick_f rfl rfl (decide_eq_false hb42) rfl) ?_)
          refine l_of (s_val (v := .bool false) (wt0 rfl) rfl rfl (x_move rfl rfl) ?_)
          refine l_of (s_not (wn1 rfl rfl rfl rfl rfl) rfl rfl ?_)
          refine l_of (s_val (v := .bool false) (wt0 rfl) rfl rfl (x_pick_f rfl rfl rfl rfl) ?_)
          refine l_of (s_val (v := .bool false) (wt0 rfl) rfl rfl (x_assign rfl rfl) ?_)
          refine g_nil ?_
          refine g_then ?_
          refine g_weak [(6, .bool false)] ⟨rfl, trivial⟩ ?_
          refine g_ret ?_
          refine g_then_ret ?_
          refine fin_ret [.tmp 6] [.bool false] rfl ⟨rfl, trivial⟩ ?_
          exact absurd ((empty_iff s).2 hs0) hb42
end Go.Proofs.Ytlajgickimgigaa
