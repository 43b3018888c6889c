import Derived.Test.YtlajgickimgigaaTE
set_option linter.unusedSimpArgs false
set_option linter.unusedVariables false
namespace Go.Proofs.Ytlajgickimgigaa
open Go.RowKit

theorem cl53 : callable Try.prog 53 = true := by kernel_rfl
theorem cl54 : callable Try.prog 54 = true := by kernel_rfl
theorem cl59 : callable Try.prog 59 = true := by kernel_rfl
theorem cl60 : callable Try.prog 60 = true := by kernel_rfl
theorem sz9 : szO Try.prog 9 = some 1 := by kernel_rfl
set_option maxRecDepth 20000 in
set_option maxHeartbeats 4000000 in
set_option maxRecDepth 20000 in
set_option maxHeartbeats 4000000 in
theorem digests_r (l : List ByteArray) (p : Option Addr) (n c : Nat) (hn : n = l.length) (hm : n ≤ 1099511627776) (w : World) (hr : Reads w p n c 1 (stV l)) : Calls Try.prog 52 #[.slice p n c] w fun e w' => e = .returned (.bool (digsB l)) ∧ S w' [Old w no] := by
  have H0 := S.old w
  refine enter 15 Try.func52 rfl rfl rfl ?_
  refine g_weak [(0, .slice p n c)] ⟨rfl, trivial⟩ ?_
  refine g_seq ?_
  refine g_region ?_
  refine l_of (s_val (v := .bool false) (wt0 rfl) rfl rfl (x_assign rfl rfl) ?_)
  refine g_nil ?_
  refine g_then ?_
  refine g_seq ?_
  refine g_seq ?_
  refine g_region ?_
  refine l_of (s_val (v := .slice p n c) (wt0 rfl) rfl rfl (x_move rfl rfl) ?_)
  refine l_of (s_val (v := .int .i64 ((n : Int))) (wt0 rfl) rfl rfl (x_lenl rfl rfl Try.underlying22) ?_)
  refine l_of (s_val (v := .int .i64 0) (wt0 rfl) rfl rfl (x_move rfl rfl) ?_)
  refine g_nil ?_
  refine g_then ?_
  refine g_block ?_
  refine g_loop (ι := Nat) (fun i => [(5, .slice p n c), (6, .int .i64 ((n : Int))), (7, .int .i64 ((i : Int)))]) (fun i wx => (i ≤ n) ∧ (∀ j, j < i → (l.getD j ⟨#[]⟩).size = 32) ∧ S wx [Old w no]) (fun i => n - i) (0) ⟨rfl, rfl, rfl, trivial⟩ ⟨Nat.zero_le _, (fun j h => by omega), H0⟩ ?_
  rintro i wq1 ⟨hi, hno, H2⟩
  replace H2 : S wq1 [Old w no] := H2
  refine g_weak [(5, .slice p n c), (6, .int .i64 ((n : Int))), (7, .int .i64 ((i : Int)))] ⟨rfl, rfl, rfl, trivial⟩ ?_
  refine g_seq ?_
  refine g_region ?_
  refine l_of (s_val (v := .bool (decide (((i : Int) : Int) < (n : Int)))) (wt0 rfl) rfl rfl (x_bin rfl rfl rfl b_lss) ?_)
  refine g_nil ?_
  refine g_then ?_
  refine g_seq ?_
  by_cases hb3 : ((i : Int) : Int) < (n : Int)
  · skip
    refine g_cond_t rfl (decide_eq_true hb3) ?_
    refine g_skip ?_
    refine g_then ?_
    refine g_seq ?_
    refine g_block ?_
    refine g_seq ?_
    refine g_region ?_
    refine l_of (s_val (v := .pointer ((p).map fun q => q.add (i * 1))) (wt0 rfl) rfl rfl (x_idxR i (H2.oldReads (k := 0) rfl hr) rfl rfl rfl Try.underlying22 sz9 (by omega)) ?_)
    refine l_of (s_val (v := .string ((l.getD (i) ⟨#[]⟩))) (wt0 rfl) rfl rfl (x_loadR1 i (H2.oldReads (k := 0) rfl hr) (by omega) rfl rfl Try.underlying9 rfl (stV_at (by omega))) ?_)
    refine l_of (s_val (v := .string ((l.getD (i) ⟨#[]⟩))) (wt0 rfl) rfl rfl (x_assign rfl rfl) ?_)
    refine g_nil ?_
    refine g_then ?_
    refine g_seq ?_
    refine g_region ?_
    refine l_of (s_val (v := .string ((l.getD (i) ⟨#[]⟩))) (wt0 rfl) rfl rfl (x_move rfl rfl) ?_)
    refine l_of (s_val (v := .int .i64 (((l.getD (i) ⟨#[]⟩).size : Int))) (wt0 rfl) rfl rfl (x_lens rfl rfl Try.underlying9) ?_)
    refine l_of (s_val (v := .bool (!decide ((((l.getD (i) ⟨#[]⟩).size : Int) : Int) = 32))) (wt0 rfl) rfl rfl (x_bin rfl rfl rfl b_neq) ?_)
    refine g_nil ?_
    refine g_then ?_
    by_cases hb4 : (((l.getD (i) ⟨#[]⟩).size : Int) : Int) = 32
    · skip
      refine g_cond_f rfl (nf hb4) ?_
      refine g_skip ?_
      refine g_in ?_
      refine g_then ?_
      refine g_region ?_
      refine l_of (s_val (v := .int .i64 ((i : Int) + 1)) (wt0 rfl) rfl rfl (x_bin rfl rfl rfl (b_add (w64 (by omega)))) ?_)
      refine l_of (s_val (v := .int .i64 ((i : Int) + 1)) (wt0 rfl) rfl rfl (x_move rfl rfl) ?_)
      refine g_nil ?_
      refine g_then ?_
      refine g_round (i := (i)) (i + 1) ?_ ?_ ?_
      · exact ⟨rfl, rfl, rfl, trivial⟩
      · exact ⟨by omega, (fun j h => by rcases Nat.lt_succ_iff_lt_or_eq.1 h with h | rfl; exact hno j h; have := hb4; omega), H2⟩
      · (try dsimp only); omega
    · skip
      refine g_cond_t rfl (nt hb4) ?_
      refine g_seq ?_
      refine g_region ?_
      refine l_of (s_val (v := .bool false) (wt0 rfl) rfl rfl (x_assign rfl rfl) ?_)
      refine g_nil ?_
      refine g_then ?_
      refine g_ret ?_
      refine g_in_ret ?_
      refine g_then_ret ?_
      refine g_then_ret ?_
      refine g_in_ret ?_
      refine g_then_ret ?_
      refine fin_ret [.tmp 2] [.bool false] rfl ⟨rfl, trivial⟩ ?_
      exact ⟨by rw [digs_no (i := i) (by omega) (fun h => hb4 (by omega))]; rfl, H2.mask [true]⟩
  · skip
    refine g_cond_f rfl (decide_eq_false hb3) ?_
    refine g_exit ?_
    refine g_then_exit ?_
    refine g_then_exit ?_
    refine g_in_hit ?_
    refine g_then ?_
    refine g_seq ?_
    refine g_region ?_
    refine l_of (s_val (v := .bool true) (wt0 rfl) rfl rfl (x_assign rfl rfl) ?_)
    refine g_nil ?_
    refine g_then ?_
    refine g_ret ?_
    refine fin_ret [.tmp 2] [.bool true] rfl ⟨rfl, trivial⟩ ?_
    exact ⟨by rw [digs_yes (fun j h => hno j (by omega))]; rfl, H2.mask [true]⟩
/-- Whether digests are few and short. -/
def fewB (l : List ByteArray) : Bool := l.all (fun s => decide (s.size ≤ 100)) && decide (l.length ≤ 70)
theorem few_no {l : List ByteArray} {i : Nat} (hi : i < l.length) (h : ¬ (l.getD i ⟨#[]⟩).size ≤ 100) : fewB l = false := by
  cases hd : fewB l with
  | false => rfl
  | true =>
    unfold fewB at hd
    rw [Bool.and_eq_true, List.all_eq_true] at hd
    have := hd.1 _ (List.getElem_mem hi)
    rw [List.getD_eq_getElem?_getD, List.getElem?_eq_getElem hi] at h
    simp at this; exact absurd this h
theorem few_yes {l : List ByteArray} (h : ∀ i, i < l.length → (l.getD i ⟨#[]⟩).size ≤ 100) : fewB l = decide (l.length ≤ 70) := by
  unfold fewB
  have : l.all (fun s => decide (s.size ≤ 100)) = true := by
    rw [List.all_eq_true]
    intro s hs
    obtain ⟨i, hi, rfl⟩ := List.getElem_of_mem hs
    have := h i hi
    rw [List.getD_eq_getElem?_getD, List.getElem?_eq_getElem hi] at this
    simpa using this
  rw [this, Bool.true_and]
set_option maxRecDepth 20000 in
set_option maxHeartbeats 4000000 in
set_option maxRecDepth 20000 in
set_option maxHeartbeats 4000000 in
theorem few_l (l : List ByteArray) (p : Option Addr) (n c : Nat) (hn : n = l.length) (hm : n ≤ 9223372036854775807) (w : World) (hr : Reads w p n c 1 (stV l)) : Calls Try.prog 9 #[.slice p n c] w fun e w' => e = .returned (.bool (fewB l)) ∧ S w' [Old w no] := by
  have H0 := S.old w
  refine enter 18 Try.func9 rfl rfl rfl ?_
  refine g_weak [(0, .slice p n c)] ⟨rfl, trivial⟩ ?_
  refine g_seq ?_
  refine g_region ?_
  refine l_of (s_val (v := .bool false) (wt0 rfl) rfl rfl (x_assign rfl rfl) ?_)
  refine g_nil ?_
  refine g_then ?_
  refine g_seq ?_
  refine g_seq ?_
  refine g_region ?_
  refine l_of (s_val (v := .slice p n c) (wt0 rfl) rfl rfl (x_move rfl rfl) ?_)
  refine l_of (s_val (v := .int .i64 ((n : Int))) (wt0 rfl) rfl rfl (x_lenl rfl rfl Try.underlying22) ?_)
  refine l_of (s_val (v := .int .i64 0) (wt0 rfl) rfl rfl (x_move rfl rfl) ?_)
  refine g_nil ?_
  refine g_then ?_
  refine g_block ?_
  refine g_loop (ι := Nat) (fun i => [(0, .slice p n c), (5, .slice p n c), (6, .int .i64 ((n : Int))), (7, .int .i64 ((i : Int)))]) (fun i wx => (i ≤ n) ∧ (∀ j, j < i → (l.getD j ⟨#[]⟩).size ≤ 100) ∧ S wx [Old w no]) (fun i => n - i) (0) ⟨rfl, rfl, rfl, rfl, trivial⟩ ⟨Nat.zero_le _, (fun j h => by omega), H0⟩ ?_
  rintro i wq1 ⟨hi, hno, H2⟩
  replace H2 : S wq1 [Old w no] := H2
  refine g_weak [(0, .slice p n c), (5, .slice p n c), (6, .int .i64 ((n : Int))), (7, .int .i64 ((i : Int)))] ⟨rfl, rfl, rfl, rfl, trivial⟩ ?_
  refine g_seq ?_
  refine g_region ?_
  refine l_of (s_val (v := .bool (decide (((i : Int) : Int) < (n : Int)))) (wt0 rfl) rfl rfl (x_bin rfl rfl rfl b_lss) ?_)
  refine g_nil ?_
  refine g_then ?_
  refine g_seq ?_
  by_cases hb3 : ((i : Int) : Int) < (n : Int)
  · skip
    refine g_cond_t rfl (decide_eq_true hb3) ?_
    refine g_skip ?_
    refine g_then ?_
    refine g_seq ?_
    refine g_block ?_
    refine g_seq ?_
    refine g_region ?_
    refine l_of (s_val (v := .pointer ((p).map fun q => q.add (i * 1))) (wt0 rfl) rfl rfl (x_idxR i (H2.oldReads (k := 0) rfl hr) rfl rfl rfl Try.underlying22 sz9 (by omega)) ?_)
    refine l_of (s_val (v := .string ((l.getD (i) ⟨#[]⟩))) (wt0 rfl) rfl rfl (x_loadR1 i (H2.oldReads (k := 0) rfl hr) (by omega) rfl rfl Try.underlying9 rfl (stV_at (by omega))) ?_)
    refine l_of (s_val (v := .string ((l.getD (i) ⟨#[]⟩))) (wt0 rfl) rfl rfl (x_assign rfl rfl) ?_)
    refine g_nil ?_
    refine g_then ?_
    refine g_seq ?_
    refine g_region ?_
    refine l_of (s_val (v := .string ((l.getD (i) ⟨#[]⟩))) (wt0 rfl) rfl rfl (x_move rfl rfl) ?_)
    refine l_of (s_val (v := .int .i64 (((l.getD (i) ⟨#[]⟩).size : Int))) (wt0 rfl) rfl rfl (x_lens rfl rfl Try.underlying9) ?_)
    refine l_of (s_val (v := .bool (decide ((100 : Int) < ((l.getD (i) ⟨#[]⟩).size : Int)))) (wt0 rfl) rfl rfl (x_bin rfl rfl rfl b_gtr) ?_)
    refine g_nil ?_
    refine g_then ?_
    by_cases hb4 : (100 : Int) < ((l.getD (i) ⟨#[]⟩).size : Int)
    · skip
      refine g_cond_t rfl (decide_eq_true hb4) ?_
      refine g_seq ?_
      refine g_region ?_
      refine l_of (s_val (v := .bool false) (wt0 rfl) rfl rfl (x_assign rfl rfl) ?_)
      refine g_nil ?_
      refine g_then ?_
      refine g_ret ?_
      refine g_in_ret ?_
      refine g_then_ret ?_
      refine g_then_ret ?_
      refine g_in_ret ?_
      refine g_then_ret ?_
      refine fin_ret [.tmp 2] [.bool false] rfl ⟨rfl, trivial⟩ ?_
      exact ⟨by rw [few_no (i := i) (by omega) (by omega)]; rfl, H2.mask [true]⟩
    · skip
      refine g_cond_f rfl (decide_eq_false hb4) ?_
      refine g_skip ?_
      refine g_in ?_
      refine g_then ?_
      refine g_region ?_
      refine l_of (s_val (v := .int .i64 ((i : Int) + 1)) (wt0 rfl) rfl rfl (x_bin rfl rfl rfl (b_add (w64 (by omega)))) ?_)
      refine l_of (s_val (v := .int .i64 ((i : Int) + 1)) (wt0 rfl) rfl rfl (x_move rfl rfl) ?_)
      refine g_nil ?_
      refine g_then ?_
      refine g_round (i := (i)) (i + 1) ?_ ?_ ?_
      · exact ⟨rfl, rfl, rfl, rfl, trivial⟩
      · exact ⟨by omega, (fun j h => by rcases Nat.lt_succ_iff_lt_or_eq.1 h with h | rfl; exact hno j h; have := hb4; omega), H2⟩
      · (try dsimp only); omega
  · skip
    refine g_cond_f rfl (decide_eq_false hb3) ?_
    refine g_exit ?_
    refine g_then_exit ?_
    refine g_then_exit ?_
    refine g_in_hit ?_
    refine g_then ?_
    refine g_seq ?_
    refine g_region ?_
    refine l_of (s_val (v := .slice p n c) (wt0 rfl) rfl rfl (x_move rfl rfl) ?_)
    refine l_of (s_val (v := .int .i64 ((n : Int))) (wt0 rfl) rfl rfl (x_lenl rfl rfl Try.underlying22) ?_)
    refine l_of (s_val (v := .bool (decide (((n : Int) : Int) ≤ 70))) (wt0 rfl) rfl rfl (x_bin rfl rfl rfl b_leq) ?_)
    refine l_of (s_val (v := .bool (decide (((n : Int) : Int) ≤ 70))) (wt0 rfl) rfl rfl (x_assign rfl rfl) ?_)
    refine g_nil ?_
    refine g_then ?_
    refine g_ret ?_
    refine fin_ret [.tmp 2] [.bool (decide (((n : Int) : Int) ≤ 70))] rfl ⟨rfl, trivial⟩ ?_
    have hd : decide ((n : Int) ≤ 70) = fewB l := by rw [few_yes (fun j h => hno j (by omega)), decide_eq_decide]; omega
    exact ⟨by rw [← hd]; rfl, H2.mask [true]⟩
set_option maxRecDepth 20000 in
set_option maxHeartbeats 4000000 in
theorem two_r (k : Nat) (hk : k ≤ 60) (w : World) : Calls Try.prog 54 #[.int .i64 ((k : Int))] w fun e w' => e = .returned (.int .i64 ((2 ^ k : Nat) : Int)) ∧ S w' [Old w no] := by
  have H0 := S.old w
  refine enter 11 Try.func54 rfl rfl rfl ?_
  refine g_weak [(0, .int .i64 ((k : Int)))] ⟨rfl, trivial⟩ ?_
  refine g_seq ?_
  refine g_region ?_
  refine l_of (s_val (v := .int .i64 0) (wt0 rfl) rfl rfl (x_assign rfl rfl) ?_)
  refine g_nil ?_
  refine g_then ?_
  refine g_seq ?_
  refine g_region ?_
  refine l_of (s_val (v := .int .i64 1) (wt0 rfl) rfl rfl (x_assign rfl rfl) ?_)
  refine g_nil ?_
  refine g_then ?_
  refine g_seq ?_
  refine g_seq ?_
  refine g_region ?_
  refine l_of (s_val (v := .int .i64 ((k : Int))) (wt0 rfl) rfl rfl (x_move rfl rfl) ?_)
  refine l_of (s_val (v := .int .i64 0) (wt0 rfl) rfl rfl (x_move rfl rfl) ?_)
  refine g_nil ?_
  refine g_then ?_
  refine g_block ?_
  refine g_loop (ι := Nat × Nat) (fun (i, x) => [(3, .int .i64 ((x : Int))), (4, .int .i64 ((k : Int))), (5, .int .i64 ((i : Int)))]) (fun (i, x) wx => (i ≤ k) ∧ (x = 2 ^ i) ∧ S wx [Old w no]) (fun (i, x) => k - i) (0, 1) ⟨rfl, rfl, rfl, trivial⟩ ⟨Nat.zero_le _, rfl, H0⟩ ?_
  rintro ⟨i, x⟩ wq1 ⟨hi, hx, H2⟩
  replace H2 : S wq1 [Old w no] := H2
  refine g_weak [(3, .int .i64 ((x : Int))), (4, .int .i64 ((k : Int))), (5, .int .i64 ((i : Int)))] ⟨rfl, rfl, rfl, trivial⟩ ?_
  have hx2 : x ≤ 2 ^ 60 := by rw [hx]; exact Nat.pow_le_pow_right (by omega) (by omega)
  have hx3 : x ≤ 1152921504606846976 := hx2
  refine g_seq ?_
  refine g_region ?_
  refine l_of (s_val (v := .bool (decide (((i : Int) : Int) < (k : Int)))) (wt0 rfl) rfl rfl (x_bin rfl rfl rfl b_lss) ?_)
  refine g_nil ?_
  refine g_then ?_
  refine g_seq ?_
  by_cases hb3 : ((i : Int) : Int) < (k : Int)
  · skip
    refine g_cond_t rfl (decide_eq_true hb3) ?_
    refine g_skip ?_
    refine g_then ?_
    refine g_seq ?_
    refine g_block ?_
    refine g_region ?_
    refine l_of (s_val (v := .int .i64 ((x : Int))) (wt0 rfl) rfl rfl (x_move rfl rfl) ?_)
    refine l_of (s_val (v := .int .i64 (((x * 2 : Nat) : Int))) (wt0 rfl) rfl rfl (x_bin rfl rfl rfl (b_mulN (a := x) (b := 2) (by omega))) ?_)
    refine l_of (s_val (v := .int .i64 (((x * 2 : Nat) : Int))) (wt0 rfl) rfl rfl (x_assign rfl rfl) ?_)
    refine g_nil ?_
    refine g_in ?_
    refine g_then ?_
    refine g_region ?_
    refine l_of (s_val (v := .int .i64 ((i : Int) + 1)) (wt0 rfl) rfl rfl (x_bin rfl rfl rfl (b_add (w64 (by omega)))) ?_)
    refine l_of (s_val (v := .int .i64 ((i : Int) + 1)) (wt0 rfl) rfl rfl (x_move rfl rfl) ?_)
    refine g_nil ?_
    refine g_then ?_
    refine g_round (i := (i, x)) (i + 1, x * 2) ?_ ?_ ?_
    · exact ⟨rfl, rfl, rfl, trivial⟩
    · exact ⟨by omega, (by rw [hx, Nat.pow_succ]), H2⟩
    · (try dsimp only); omega
  · skip
    refine g_cond_f rfl (decide_eq_false hb3) ?_
    refine g_exit ?_
    refine g_then_exit ?_
    refine g_then_exit ?_
    refine g_in_hit ?_
    refine g_then ?_
    refine g_seq ?_
    refine g_region ?_
    refine l_of (s_val (v := .int .i64 ((x : Int))) (wt0 rfl) rfl rfl (x_move rfl rfl) ?_)
    refine l_of (s_val (v := .int .i64 ((x : Int))) (wt0 rfl) rfl rfl (x_assign rfl rfl) ?_)
    refine g_nil ?_
    refine g_then ?_
    refine g_ret ?_
    refine fin_ret [.tmp 2] [.int .i64 ((x : Int))] rfl ⟨rfl, trivial⟩ ?_
    have hik : i = k := by omega
    subst hik
    exact ⟨by rw [hx]; rfl, H2.mask [true]⟩
theorem tall_next {n h : Nat} (hn : n ≤ 1099511627776) (hh : h ≤ tallN n) (h1 : 2 ^ h < n) : h + 1 ≤ tallN n := by
  obtain ⟨t1, t2, t3⟩ := tall_spec hn
  rcases Nat.lt_or_eq_of_le hh with h2 | h2
  · omega
  · rw [h2] at h1; omega
theorem tall_stop {n h : Nat} (hn : n ≤ 1099511627776) (hh : h ≤ tallN n) (h1 : n ≤ 2 ^ h) : h = tallN n := by
  obtain ⟨t1, t2, t3⟩ := tall_spec hn
  rcases Nat.lt_or_eq_of_le hh with h2 | h2
  · have := t2 h h2; omega
  · exact h2
set_option maxRecDepth 20000 in
set_option maxHeartbeats 4000000 in
theorem tall_r (n : Nat) (hn : n ≤ 1099511627776) (w : World) : Calls Try.prog 53 #[.int .i64 ((n : Int))] w fun e w' => e = .returned (.int .i64 ((tallN n : Nat) : Int)) ∧ S w' [Old w no] := by
  have H0 := S.old w
  refine enter 11 Try.func53 rfl rfl rfl ?_
  refine g_weak [(0, .int .i64 ((n : Int)))] ⟨rfl, trivial⟩ ?_
  refine g_seq ?_
  refine g_region ?_
  refine l_of (s_val (v := .int .i64 0) (wt0 rfl) rfl rfl (x_assign rfl rfl) ?_)
  refine g_nil ?_
  refine g_then ?_
  refine g_seq ?_
  refine g_region ?_
  refine l_of (s_val (v := .int .i64 0) (wt0 rfl) rfl rfl (x_assign rfl rfl) ?_)
  refine g_nil ?_
  refine g_then ?_
  refine g_seq ?_
  refine g_block ?_
  refine g_loop (ι := Nat) (fun h => [(0, .int .i64 ((n : Int))), (3, .int .i64 ((h : Int)))]) (fun h wx => (h ≤ tallN n) ∧ (∀ j, j < h → 2 ^ j < n) ∧ S wx [Old w no]) (fun h => tallN n - h) (0) ⟨rfl, rfl, trivial⟩ ⟨Nat.zero_le _, (fun j h => by omega), H0⟩ ?_
  rintro h wq1 ⟨hh, hlt, H2⟩
  replace H2 : S wq1 [Old w no] := H2
  refine g_weak [(0, .int .i64 ((n : Int))), (3, .int .i64 ((h : Int)))] ⟨rfl, rfl, trivial⟩ ?_
  obtain ⟨ht1, ht2, ht3⟩ := tall_spec hn
  refine g_seq ?_
  refine g_seq ?_
  refine g_region ?_
  refine l_of (s_val (v := .int .i64 ((h : Int))) (wt0 rfl) rfl rfl (x_move rfl rfl) ?_)
  refine l_of (s_call (wt0 rfl) (x_call' rfl rfl cl54) (two_r _ (by omega) _) ?_)
  rintro _ wq3 ⟨rfl, H4⟩
  replace H4 : S wq3 [Old w no] := H2.absorb (new := []) H4
  refine b_ret rfl rfl ?_
  refine l_of (s_val (v := .int .i64 ((n : Int))) (wt0 rfl) rfl rfl (x_move rfl rfl) ?_)
  refine l_of (s_val (v := .bool (decide ((((2 ^ h : Nat) : Int) : Int) < (n : Int)))) (wt0 rfl) rfl rfl (x_bin rfl rfl rfl b_lss) ?_)
  refine g_nil ?_
  refine g_then ?_
  by_cases hb5 : (((2 ^ h : Nat) : Int) : Int) < (n : Int)
  · skip
    refine g_cond_t rfl (decide_eq_true hb5) ?_
    refine g_skip ?_
    refine g_then ?_
    refine g_block ?_
    refine g_region ?_
    refine l_of (s_val (v := .int .i64 ((h : Int))) (wt0 rfl) rfl rfl (x_move rfl rfl) ?_)
    refine l_of (s_val (v := .int .i64 ((h : Int) + 1)) (wt0 rfl) rfl rfl (x_bin rfl rfl rfl (b_add (w64 (by omega)))) ?_)
    refine l_of (s_val (v := .int .i64 ((h : Int) + 1)) (wt0 rfl) rfl rfl (x_assign rfl rfl) ?_)
    refine g_nil ?_
    refine g_in ?_
    refine g_then ?_
    have htn := tall_next hn hh (by have := hb5; omega)
    refine g_round (i := (h)) (h + 1) ?_ ?_ ?_
    · exact ⟨rfl, rfl, trivial⟩
    · exact ⟨by omega, (fun j h => by rcases Nat.lt_succ_iff_lt_or_eq.1 h with h | rfl; exact hlt j h; have := hb5; omega), H4⟩
    · (try dsimp only); omega
  · skip
    refine g_cond_f rfl (decide_eq_false hb5) ?_
    refine g_exit ?_
    refine g_then_exit ?_
    refine g_then_exit ?_
    refine g_in_hit ?_
    refine g_then ?_
    refine g_seq ?_
    refine g_region ?_
    refine l_of (s_val (v := .int .i64 ((h : Int))) (wt0 rfl) rfl rfl (x_move rfl rfl) ?_)
    refine l_of (s_val (v := .int .i64 ((h : Int))) (wt0 rfl) rfl rfl (x_assign rfl rfl) ?_)
    refine g_nil ?_
    refine g_then ?_
    refine g_ret ?_
    refine fin_ret [.tmp 2] [.int .i64 ((h : Int))] rfl ⟨rfl, trivial⟩ ?_
    have hst := tall_stop hn hh (by have := hb5; omega)
    subst hst
    exact ⟨rfl, H4.mask [true]⟩
set_option maxRecDepth 20000 in
set_option maxHeartbeats 4000000 in
theorem count_r (n v : Nat) (h1 : 1 ≤ n) (hn : n ≤ 1099511627776) (hv : v ≤ 60) (w : World) : Calls Try.prog 38 #[.int .i64 ((n : Int)), .int .i64 ((v : Int))] w fun e w' => e = .returned (.int .i64 ((countN n v : Nat) : Int)) ∧ S w' [Old w no] := by
  have H0 := S.old w
  have h2 : 0 < 2 ^ v := Nat.two_pow_pos v
  have h3 : (n - 1) / 2 ^ v ≤ n - 1 := Nat.div_le_self _ _
  refine enter 11 Try.func38 rfl rfl rfl ?_
  refine g_weak [(0, .int .i64 ((n : Int))), (1, .int .i64 ((v : Int)))] ⟨rfl, rfl, trivial⟩ ?_
  refine g_seq ?_
  refine g_region ?_
  refine l_of (s_val (v := .int .i64 0) (wt0 rfl) rfl rfl (x_assign rfl rfl) ?_)
  refine g_nil ?_
  refine g_then ?_
  refine g_seq ?_
  refine g_region ?_
  refine l_of (s_val (v := .int .i64 ((n : Int))) (wt0 rfl) rfl rfl (x_move rfl rfl) ?_)
  refine l_of (s_val (v := .int .i64 (((n - 1 : Nat) : Int))) (wt0 rfl) rfl rfl (x_bin rfl rfl rfl (b_subN (a := n) (b := 1) (by omega))) ?_)
  refine l_of (s_val (v := .int .i64 ((v : Int))) (wt0 rfl) rfl rfl (x_move rfl rfl) ?_)
  refine l_of (s_call (wt0 rfl) (x_call' rfl rfl cl54) (two_r _ (by omega) _) ?_)
  rintro _ wq1 ⟨rfl, H2⟩
  replace H2 : S wq1 [Old w no] := H0.absorb (new := []) H2
  refine b_ret rfl rfl ?_
  refine l_of (s_val (v := .int .i64 ((((n - 1) / 2 ^ v : Nat) : Int))) (wt0 rfl) rfl rfl (x_bin rfl rfl rfl (b_quoN (a := n - 1) (b := 2 ^ v) (by omega))) ?_)
  refine l_of (s_val (v := .int .i64 (((countN n v : Nat) : Int))) (wt0 rfl) rfl rfl (x_bin rfl rfl rfl (b_addN (a := (n - 1) / 2 ^ v) (b := 1) (by omega))) ?_)
  refine l_of (s_val (v := .int .i64 (((countN n v : Nat) : Int))) (wt0 rfl) rfl rfl (x_assign rfl rfl) ?_)
  refine g_nil ?_
  refine g_then ?_
  refine g_ret ?_
  refine fin_ret [.tmp 4] [.int .i64 (((countN n v : Nat) : Int))] rfl ⟨rfl, trivial⟩ ?_
  exact ⟨rfl, H2.mask [true]⟩
set_option maxRecDepth 20000 in
set_option maxHeartbeats 4000000 in
theorem zeroAt_r (v : Nat) (hv : v ≤ 12) (w : World) : Calls Try.prog 19 #[.int .i64 ((v : Int))] w fun e w' => e = .returned (.tuple #[.string (zeroS v), .int .i64 0]) ∧ S w' [Old w no] := by
  have H0 := S.old w
  refine enter 21 Try.func19 rfl rfl rfl ?_
  refine g_weak [(0, .int .i64 ((v : Int)))] ⟨rfl, trivial⟩ ?_
  refine g_seq ?_
  refine g_region ?_
  refine l_of (s_val (v := .string (⟨#[]⟩)) (wt0 rfl) rfl rfl (x_assign rfl rfl) ?_)
  refine l_of (s_val (v := .int .i64 0) (wt0 rfl) rfl rfl (x_assign rfl rfl) ?_)
  refine g_nil ?_
  refine g_then ?_
  refine g_seq ?_
  refine g_seq ?_
  refine g_region ?_
  refine l_of (s_val (v := .int .i64 ((v : Int))) (wt0 rfl) rfl rfl (x_move rfl rfl) ?_)
  refine l_of (s_val (v := .bool (decide (((v : Int) : Int) < 0))) (wt0 rfl) rfl rfl (x_bin rfl rfl rfl b_lss) ?_)
  refine l_of (s_val (v := .bool (decide (((v : Int) : Int) < 0))) (wt0 rfl) rfl rfl (x_move rfl rfl) ?_)
  refine l_of (s_val (v := .int .i64 ((v : Int))) (wt1 rfl rfl rfl rfl (decide_eq_false (by omega))) rfl rfl (x_move rfl rfl) ?_)
  refine l_of (s_call (wt1 rfl rfl rfl rfl (decide_eq_false (by omega))) (x_call' rfl rfl cl53) (tall_r _ (by first | omega | decide) _) ?_)
  rintro _ wq1 ⟨rfl, H2⟩
  replace H2 : S wq1 [Old w no] := H0.absorb (new := []) H2
  refine b_ret rfl rfl ?_
  refine l_of (s_val (v := .bool (decide ((((tallN 4096 : Nat) : Int) : Int) < (v : Int)))) (wt1 rfl rfl rfl rfl (decide_eq_false (by omega))) rfl rfl (x_bin rfl rfl rfl b_gtr) ?_)
  refine l_of (s_val (v := .bool (decide ((((tallN 4096 : Nat) : Int) : Int) < (v : Int)))) (wt0 rfl) rfl rfl (x_pick_f rfl rfl (decide_eq_false (by omega)) rfl) ?_)
  refine g_nil ?_
  refine g_then ?_
  refine g_cond_f rfl (decide_eq_false (by have : tallN 4096 = 12 := (by decide); omega)) ?_
  refine g_skip ?_
  refine g_then ?_
  refine g_seq ?_
  refine g_region ?_
  refine l_of (s_call (wt0 rfl) (x_call' rfl rfl cl59) (zero_r _) ?_)
  rintro _ wq3 ⟨rfl, H4⟩
  replace H4 : S wq3 [Old w no] := H2.absorb (new := []) H4
  refine b_ret rfl rfl ?_
  refine l_of (s_val (v := .string zeroB) (wt0 rfl) rfl rfl (x_assign rfl rfl) ?_)
  refine g_nil ?_
  refine g_then ?_
  refine g_seq ?_
  refine g_seq ?_
  refine g_region ?_
  refine l_of (s_val (v := .int .i64 ((v : Int))) (wt0 rfl) rfl rfl (x_move rfl rfl) ?_)
  refine l_of (s_val (v := .int .i64 0) (wt0 rfl) rfl rfl (x_move rfl rfl) ?_)
  refine g_nil ?_
  refine g_then ?_
  refine g_block ?_
  refine g_loop (ι := Nat) (fun i => [(4, .string ((zeroS i))), (13, .int .i64 ((v : Int))), (14, .int .i64 ((i : Int)))]) (fun i wx => (i ≤ v) ∧ S wx [Old w no]) (fun i => v - i) (0) ⟨rfl, rfl, rfl, trivial⟩ ⟨Nat.zero_le _, H4⟩ ?_
  rintro i wq5 ⟨hi, H6⟩
  replace H6 : S wq5 [Old w no] := H6
  refine g_weak [(4, .string ((zeroS i))), (13, .int .i64 ((v : Int))), (14, .int .i64 ((i : Int)))] ⟨rfl, rfl, rfl, trivial⟩ ?_
  have hz := zeroS_size i
  refine g_seq ?_
  refine g_region ?_
  refine l_of (s_val (v := .bool (decide (((i : Int) : Int) < (v : Int)))) (wt0 rfl) rfl rfl (x_bin rfl rfl rfl b_lss) ?_)
  refine g_nil ?_
  refine g_then ?_
  refine g_seq ?_
  by_cases hb7 : ((i : Int) : Int) < (v : Int)
  · skip
    refine g_cond_t rfl (decide_eq_true hb7) ?_
    refine g_skip ?_
    refine g_then ?_
    refine g_seq ?_
    refine g_block ?_
    refine g_region ?_
    refine l_of (s_val (v := .string ((zeroS i))) (wt0 rfl) rfl rfl (x_move rfl rfl) ?_)
    refine l_of (s_val (v := .string ((zeroS i))) (wt0 rfl) rfl rfl (x_move rfl rfl) ?_)
    refine l_of (s_call (wt0 rfl) (x_call' rfl rfl cl60) (pair_r _ _ (by omega) _) ?_)
    rintro _ wq8 ⟨rfl, H9⟩
    replace H9 : S wq8 [Old w no] := H6.absorb (new := []) H9
    refine b_ret rfl rfl ?_
    refine l_of (s_val (v := .string ((pairS (zeroS i) (zeroS i)))) (wt0 rfl) rfl rfl (x_assign rfl rfl) ?_)
    refine g_nil ?_
    refine g_in ?_
    refine g_then ?_
    refine g_region ?_
    refine l_of (s_val (v := .int .i64 ((i : Int) + 1)) (wt0 rfl) rfl rfl (x_bin rfl rfl rfl (b_add (w64 (by omega)))) ?_)
    refine l_of (s_val (v := .int .i64 ((i : Int) + 1)) (wt0 rfl) rfl rfl (x_move rfl rfl) ?_)
    refine g_nil ?_
    refine g_then ?_
    refine g_round (i := (i)) (i + 1) ?_ ?_ ?_
    · exact ⟨rfl, rfl, rfl, trivial⟩
    · exact ⟨by omega, H9⟩
    · (try dsimp only); omega
  · skip
    refine g_cond_f rfl (decide_eq_false hb7) ?_
    refine g_exit ?_
    refine g_then_exit ?_
    refine g_then_exit ?_
    refine g_in_hit ?_
    refine g_then ?_
    refine g_seq ?_
    refine g_region ?_
    refine l_of (s_val (v := .string ((zeroS i))) (wt0 rfl) rfl rfl (x_move rfl rfl) ?_)
    refine l_of (s_val (v := .string ((zeroS i))) (wt0 rfl) rfl rfl (x_assign rfl rfl) ?_)
    refine l_of (s_val (v := .int .i64 0) (wt0 rfl) rfl rfl (x_assign rfl rfl) ?_)
    refine g_nil ?_
    refine g_then ?_
    refine g_ret ?_
    refine fin_ret [.tmp 2, .tmp 3] [.string ((zeroS i)), .int .i64 0] rfl ⟨rfl, rfl, trivial⟩ ?_
    have hiv : i = v := by omega
    exact ⟨by rw [hiv]; rfl, H6.mask [true]⟩
end Go.Proofs.Ytlajgickimgigaa
