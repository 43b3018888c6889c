import Derived.Test.YtlajgickimgigaaTF
set_option linter.unusedSimpArgs false
set_option linter.unusedVariables false
namespace Go.Proofs.Ytlajgickimgigaa
open Go.RowKit

theorem cl19 : callable Try.prog 19 = true := by kernel_rfl
theorem cl38 : callable Try.prog 38 = true := by kernel_rfl
theorem cl52 : callable Try.prog 52 = true := by kernel_rfl
theorem cl55 : callable Try.prog 55 = true := by kernel_rfl
theorem inf9 : infO Try.prog 9 = some (some (.string (⟨#[]⟩)), 1, 16) := by kernel_rfl
theorem ze9 : zeO Try.prog 9 = some (.string (⟨#[]⟩)) := by kernel_rfl
set_option maxRecDepth 20000 in
set_option maxHeartbeats 4000000 in
set_option maxRecDepth 20000 in
set_option maxHeartbeats 4000000 in
theorem up_r (l : List ByteArray) (p : Option Addr) (n c : Nat) (hn : n = l.length) (hsz : ∀ j, j < n → (l.getD j ⟨#[]⟩).size ≤ 65536) (hm : n ≤ 1099511627776) (w : World) (hr : Reads w p n c 1 (stV l)) : Calls Try.prog 55 #[.slice p n c] w fun e w' => ∃ p c, e = .returned (.slice p (n / 2) c) ∧ S w' ([Rw 9 1 p (n / 2) c (stV (upS l))] ++ [Old w no]) := by
  have H0 := S.old w
  refine enter 26 Try.func55 rfl rfl rfl ?_
  refine g_weak [(0, .slice p n c)] ⟨rfl, trivial⟩ ?_
  refine g_seq ?_
  refine g_region ?_
  refine l_of (s_val (v := .slice none 0 0) (wt0 rfl) rfl rfl (x_assign rfl rfl) ?_)
  refine g_nil ?_
  refine g_then ?_
  refine g_seq ?_
  refine g_region ?_
  have H1 : S w [Rw 9 1 none 0 0 (stV []), Old w no] := H0.nilRw 9 1
  refine l_of (s_val (v := .slice none 0 0) (wt0 rfl) rfl rfl (x_assign rfl rfl) ?_)
  refine g_nil ?_
  refine g_then ?_
  refine g_seq ?_
  refine g_seq ?_
  refine g_region ?_
  refine l_of (s_val (v := .int .i64 0) (wt0 rfl) rfl rfl (x_assign rfl rfl) ?_)
  refine g_nil ?_
  refine g_then ?_
  refine g_block ?_
  refine g_loop (ι := Nat × Option Addr × Nat) (fun (i, q, d) => [(0, .slice p n c), (3, .slice q i d), (4, .int .i64 (((2 * i : Nat) : Int)))]) (fun (i, q, d) wx => (2 * i ≤ n) ∧ S wx [Rw 9 1 q i d (stV (upTo l i)), Old w no]) (fun (i, q, d) => n - i) (0, none, 0) ⟨rfl, rfl, rfl, trivial⟩ ⟨by omega, (H1.takes [0, 1] (by decide))⟩ ?_
  rintro ⟨i, q, d⟩ wq2 ⟨hi, H3⟩
  replace H3 : S wq2 [Rw 9 1 q i d (stV (upTo l i)), Old w no] := H3
  refine g_weak [(0, .slice p n c), (3, .slice q i d), (4, .int .i64 (((2 * i : Nat) : Int)))] ⟨rfl, rfl, rfl, trivial⟩ ?_
  have hz1 : 2 * i + 1 < n → (l.getD (2 * i) ⟨#[]⟩).size ≤ 65536 ∧ (l.getD (2 * i + 1) ⟨#[]⟩).size ≤ 65536 := fun h => ⟨hsz _ (by omega), hsz _ (by omega)⟩
  refine g_seq ?_
  refine g_seq ?_
  refine g_region ?_
  refine l_of (s_val (v := .int .i64 (((2 * i : Nat) : Int))) (wt0 rfl) rfl rfl (x_move rfl rfl) ?_)
  refine l_of (s_val (v := .int .i64 (((2 * i + 1 : Nat) : Int))) (wt0 rfl) rfl rfl (x_bin rfl rfl rfl (b_addN (a := 2 * i) (b := 1) (by omega))) ?_)
  refine l_of (s_val (v := .slice p n c) (wt0 rfl) rfl rfl (x_move rfl rfl) ?_)
  refine l_of (s_val (v := .int .i64 ((n : Int))) (wt0 rfl) rfl rfl (x_lenl rfl rfl Try.underlying22) ?_)
  refine l_of (s_val (v := .bool (decide ((((2 * i + 1 : Nat) : Int) : Int) < (n : Int)))) (wt0 rfl) rfl rfl (x_bin rfl rfl rfl b_lss) ?_)
  refine g_nil ?_
  refine g_then ?_
  by_cases hb4 : (((2 * i + 1 : Nat) : Int) : Int) < (n : Int)
  · skip
    refine g_cond_t rfl (decide_eq_true hb4) ?_
    refine g_skip ?_
    refine g_then ?_
    refine g_seq ?_
    refine g_block ?_
    refine g_any [] (fun wx => S wx [Old w no]) [] (by kernel_rfl) H3 (fun wq5 H6 => ?_)
    refine a_take (v := .slice q i d) 0 rfl (wt0 rfl) rfl rfl rfl (by kernel_rfl) (by kernel_rfl) (by kernel_rfl) (by kernel_rfl) (H6.mask [false, true]) (fun wx H => x_move rfl rfl) ?_
    refine a_take (v := .slice p n c) 1 rfl (wt0 rfl) rfl rfl rfl (by kernel_rfl) (by kernel_rfl) (by kernel_rfl) (by kernel_rfl) (H6.mask [false, true]) (fun wx H => x_move rfl rfl) ?_
    refine a_take (v := .int .i64 (((2 * i : Nat) : Int))) 2 rfl (wt0 rfl) rfl rfl rfl (by kernel_rfl) (by kernel_rfl) (by kernel_rfl) (by kernel_rfl) (H6.mask [false, true]) (fun wx H => x_move rfl rfl) ?_
    refine a_take (v := .pointer ((p).map fun q => q.add ((2 * i) * 1))) 3 rfl (wt0 rfl) rfl rfl rfl (by kernel_rfl) (by kernel_rfl) (by kernel_rfl) (by kernel_rfl) (H6.mask [false, true]) (fun wx H => x_idxP (2 * i) ((hr.2.2 (by omega)).imp fun _ h => h.1) rfl rfl rfl Try.underlying22 sz9 (by omega)) ?_
    refine a_take (v := .string ((l.getD ((2 * i)) ⟨#[]⟩))) 4 rfl (wt0 rfl) rfl rfl rfl (by kernel_rfl) (by kernel_rfl) (by kernel_rfl) (by kernel_rfl) (H6.mask [false, true]) (fun wx H => x_loadR1 (2 * i) (H.oldReads (k := 0) rfl hr) (by omega) rfl rfl Try.underlying9 rfl (stV_at (by omega))) ?_
    refine a_take (v := .slice p n c) 5 rfl (wt0 rfl) rfl rfl rfl (by kernel_rfl) (by kernel_rfl) (by kernel_rfl) (by kernel_rfl) (H6.mask [false, true]) (fun wx H => x_move rfl rfl) ?_
    refine a_take (v := .int .i64 (((2 * i : Nat) : Int))) 6 rfl (wt0 rfl) rfl rfl rfl (by kernel_rfl) (by kernel_rfl) (by kernel_rfl) (by kernel_rfl) (H6.mask [false, true]) (fun wx H => x_move rfl rfl) ?_
    refine a_take (v := .int .i64 (((2 * i + 1 : Nat) : Int))) 7 rfl (wt0 rfl) rfl rfl rfl (by kernel_rfl) (by kernel_rfl) (by kernel_rfl) (by kernel_rfl) (H6.mask [false, true]) (fun wx H => x_bin rfl rfl rfl (b_addN (a := 2 * i) (b := 1) (by omega))) ?_
    refine a_take (v := .pointer ((p).map fun q => q.add ((2 * i + 1) * 1))) 8 rfl (wt0 rfl) rfl rfl rfl (by kernel_rfl) (by kernel_rfl) (by kernel_rfl) (by kernel_rfl) (H6.mask [false, true]) (fun wx H => x_idxP (2 * i + 1) ((hr.2.2 (by omega)).imp fun _ h => h.1) rfl rfl rfl Try.underlying22 sz9 (by omega)) ?_
    refine a_take (v := .string ((l.getD ((2 * i + 1)) ⟨#[]⟩))) 9 rfl (wt0 rfl) rfl rfl rfl (by kernel_rfl) (by kernel_rfl) (by kernel_rfl) (by kernel_rfl) (H6.mask [false, true]) (fun wx H => x_loadR1 (2 * i + 1) (H.oldReads (k := 0) rfl hr) (by omega) rfl rfl Try.underlying9 rfl (stV_at (by omega))) ?_
    refine a_one (i := 10) (by kernel_rfl) rfl ?_
    refine s_call (wt0 rfl) (x_call' rfl rfl cl60) (pair_r _ _ (by omega) _) ?_
    rintro _ wq7 ⟨rfl, H8⟩
    replace H8 : S wq7 [Rw 9 1 q i d (stV (upTo l i)), Old w no] := H6.absorb (new := []) H8
    refine b_ret rfl rfl ?_
    refine a_k (H8.mask [false, true]) ?_
    refine a_one (i := 11) (by kernel_rfl) rfl ?_
    refine s_buildSlice H8 (wt0 rfl) rfl rfl rfl (vs := [.string ((pairS (l.getD ((2 * i)) ⟨#[]⟩) (l.getD ((2 * i + 1)) ⟨#[]⟩)))]) rfl Try.underlying22 sz9 ze9 rfl rfl (cells := #[.string ((pairS (l.getD ((2 * i)) ⟨#[]⟩) (l.getD ((2 * i + 1)) ⟨#[]⟩)))]) (by kernel_rfl) ?_
    intro g9 wq10 H11
    refine a_k (H11.mask [false, false, true]) ?_
    refine a_one (i := 12) (by kernel_rfl) rfl ?_
    refine s_appendR (n := i) (m := 1) (sc := d) (xs := (stV (upTo l i))) (news := [.string ((pairS (l.getD ((2 * i)) ⟨#[]⟩) (l.getD ((2 * i + 1)) ⟨#[]⟩)))]) (p := q) (ad := ⟨g9, 0, none⟩) H11 1 (wt0 rfl) rfl rfl rfl rfl rfl rfl Try.underlying22 inf9 rfl (by decide) (by decide) rfl (by decide) (news_ob H11 (j0 := 0) rfl) rfl (by omega) ?_
    intro p12 c13 wq14 (H15 : S wq14 [Ob g9 (.cells #[.string ((pairS (l.getD ((2 * i)) ⟨#[]⟩) (l.getD ((2 * i + 1)) ⟨#[]⟩)))] 9 (0, 0)), Rw 9 1 p12 (i + 1) c13 ((stV (upTo l i)) ++ [.string ((pairS (l.getD ((2 * i)) ⟨#[]⟩) (l.getD ((2 * i + 1)) ⟨#[]⟩)))]), Old w no])
    refine a_k (H15.mask [false, false, true]) ?_
    refine a_take (v := .slice p12 (i + 1) c13) 13 rfl (wt0 rfl) rfl rfl rfl (by kernel_rfl) (by kernel_rfl) (by kernel_rfl) (by kernel_rfl) (H15.mask [false, false, true]) (fun wx H => x_assign rfl rfl) ?_
    refine a_done (by kernel_rfl) ?_
    refine g_in ?_
    refine g_then ?_
    refine g_weak [(0, .slice p n c), (3, .slice p12 (i + 1) c13), (4, .int .i64 (((2 * i : Nat) : Int)))] ⟨rfl, rfl, rfl, trivial⟩ ?_
    refine g_region ?_
    refine l_of (s_val (v := .int .i64 (((2 * i : Nat) : Int))) (wt0 rfl) rfl rfl (x_move rfl rfl) ?_)
    refine l_of (s_val (v := .int .i64 (((2 * (i + 1) : Nat) : Int))) (wt0 rfl) rfl rfl (x_bin rfl rfl rfl (b_addN (a := 2 * i) (b := 2) (by omega))) ?_)
    refine l_of (s_val (v := .int .i64 (((2 * (i + 1) : Nat) : Int))) (wt0 rfl) rfl rfl (x_assign rfl rfl) ?_)
    refine g_nil ?_
    refine g_then ?_
    refine g_round (i := (i, q, d)) (i + 1, p12, c13) ?_ ?_ ?_
    · exact ⟨rfl, rfl, rfl, trivial⟩
    · exact ⟨by omega, (by rw [upTo_next, stV_snoc]; exact (H15.takes [1, 2] (by decide)))⟩
    · (try dsimp only); omega
  · skip
    refine g_cond_f rfl (decide_eq_false hb4) ?_
    refine g_exit ?_
    refine g_then_exit ?_
    refine g_then_exit ?_
    refine g_in_hit ?_
    refine g_then ?_
    refine g_seq ?_
    refine g_region ?_
    refine l_of (s_val (v := .slice q i d) (wt0 rfl) rfl rfl (x_move rfl rfl) ?_)
    refine l_of (s_val (v := .slice q i d) (wt0 rfl) rfl rfl (x_assign rfl rfl) ?_)
    refine g_nil ?_
    refine g_then ?_
    refine g_ret ?_
    refine fin_ret [.tmp 2] [.slice q i d] rfl ⟨rfl, trivial⟩ ?_
    have hin : i = n / 2 := by omega
    subst hin
    exact ⟨_, _, rfl, by rw [← upTo_all, ← hn]; exact H3⟩
theorem tall_i (n : Int) (h : 0 ≤ n ∧ n ≤ 1099511627776) (w : World) : Calls Try.prog 53 #[.int .i64 n] w fun e w' => e = .returned (.int .i64 ((tallN n.toNat : Nat) : Int)) ∧ S w' [Old w no] := by
  have e : n = (n.toNat : Int) := by omega
  rw [e]; exact tall_r _ (by omega) _
theorem up_p (t : Nat) (l : List ByteArray) (h1 : (1 : Int) < ((2 ^ t : Nat) : Int)) (hl : l.length = 2 ^ t) (ht : t ≤ 40) (hd : digsB l = true) (p : Option Addr) (c : Nat) (w : World) (hr : Reads w p (2 ^ t) c 1 (stV l)) :
    Calls Try.prog 55 #[.slice p (2 ^ t) c] w fun e w' => ∃ p' c', e = .returned (.slice p' (2 ^ (t - 1)) c') ∧ S w' ([Rw 9 1 p' (2 ^ (t - 1)) c' (stV (upS l))] ++ [Old w no]) := by
  have ht1 : 1 ≤ t := by
    rcases Nat.eq_zero_or_pos t with h | h
    · subst h; exact absurd h1 (by decide)
    · exact h
  have e : 2 ^ t / 2 = 2 ^ (t - 1) := by
    conv => lhs; rw [show t = (t - 1) + 1 from by omega, Nat.pow_succ]
    omega
  have hp : 2 ^ t ≤ 2 ^ 40 := Nat.pow_le_pow_right (by omega) ht
  have := up_r l p (2 ^ t) c hl.symm (fun j hj => by rw [digs_get hd (by omega)]; omega) (by omega) w hr
  rw [e] at this
  exact this
theorem range_t {n level : Int} (h1 : 1 ≤ n) (h2 : n ≤ 4096) (h3 : 0 ≤ level) (h4 : level ≤ (tallN n.toNat : Int)) : rangeT n level = true := by
  unfold rangeT; rw [decide_eq_true h1, decide_eq_true h2, decide_eq_true h3, decide_eq_true h4]; rfl
theorem range_f {n level : Int} (h : n < 1 ∨ 4096 < n ∨ level < 0 ∨ (tallN n.toNat : Int) < level) : rangeT n level = false := by
  cases hr : rangeT n level with
  | false => rfl
  | true =>
    unfold rangeT at hr
    simp only [Bool.and_eq_true, decide_eq_true_eq] at hr
    omega
theorem range_spec {n level : Int} (h : rangeT n level = true) : 1 ≤ n ∧ n ≤ 4096 ∧ 0 ≤ level ∧ level ≤ (tallN n.toNat : Int) := by
  unfold rangeT at h
  simp only [Bool.and_eq_true, decide_eq_true_eq] at h
  omega
theorem count_le {n v : Nat} (h1 : 1 ≤ n) (hn : n ≤ 1099511627776) (hv : v ≤ tallN n) : countN n v ≤ 2 ^ (tallN n - v) := by
  obtain ⟨t1, t2, t3⟩ := tall_spec hn
  have e : 2 ^ tallN n = 2 ^ v * 2 ^ (tallN n - v) := by rw [← Nat.pow_add]; congr 1; omega
  have : (n - 1) / 2 ^ v < 2 ^ (tallN n - v) := Nat.div_lt_of_lt_mul (by omega)
  unfold countN; omega
theorem tall_le12 {n : Nat} (hn : n ≤ 4096) : tallN n ≤ 12 := by
  obtain ⟨t1, t2, t3⟩ := tall_spec (n := n) (by omega)
  rcases Nat.lt_or_ge 12 (tallN n) with h | h
  · have := t2 12 h; omega
  · exact h
theorem upN_snoc : ∀ (k : Nat) (l : List ByteArray), upN (k + 1) l = upS (upN k l)
  | 0, l => rfl
  | k + 1, l => upN_snoc k (upS l)
set_option maxRecDepth 20000 in
set_option maxHeartbeats 4000000 in
set_option maxRecDepth 20000 in
set_option maxHeartbeats 4000000 in
theorem from_bad (n level : Int) (l : List ByteArray) (p : Option Addr) (m c : Nat) (hn : m = l.length) (hm : m ≤ 1099511627776) (hbad : digsB l = false ∨ rangeT n level = false) (w : World) (hr : Reads w p m c 1 (stV l)) : Calls Try.prog 12 #[.int .i64 n, .int .i64 level, .slice p m c] w fun e w' => e = .returned (.tuple #[.string (fromS n level l).1, .int .i64 (fromS n level l).2]) ∧ S w' [Old w no] := by
  have H0 := S.old w
  refine enter 67 Try.func12 rfl rfl rfl ?_
  refine g_weak [(0, .int .i64 n), (1, .int .i64 level), (2, .slice p m c)] ⟨rfl, rfl, rfl, trivial⟩ ?_
  refine g_seq ?_
  refine g_region ?_
  refine l_of (s_val (v := .string (⟨#[]⟩)) (wt0 rfl) rfl rfl (x_assign rfl rfl) ?_)
  refine l_of (s_val (v := .int .i64 0) (wt0 rfl) rfl rfl (x_assign rfl rfl) ?_)
  refine g_nil ?_
  refine g_then ?_
  refine g_seq ?_
  refine g_block ?_
  refine g_seq ?_
  refine g_region ?_
  refine l_of (s_val (v := .slice p m c) (wt0 rfl) rfl rfl (x_move rfl rfl) ?_)
  refine l_of (s_call (wt0 rfl) (x_call' rfl rfl cl52) (digests_r l p m c hn (by omega) _ (H0.oldReads (k := 0) rfl hr)) ?_)
  rintro _ wq1 ⟨rfl, H2⟩
  replace H2 : S wq1 [Old w no] := H0.absorb (new := []) H2
  refine b_ret rfl rfl ?_
  refine l_of (s_val (v := .bool (!((digsB l)))) (wt0 rfl) rfl rfl (x_not (b := (digsB l)) rfl rfl) ?_)
  refine l_of (s_val (v := .bool (!((digsB l)))) (wt0 rfl) rfl rfl (x_assign rfl rfl) ?_)
  refine g_nil ?_
  refine g_then ?_
  rcases Bool.eq_false_or_eq_true ((digsB l)) with hb3 | hb3
  · skip
    refine g_cond_f rfl (neg_of hb3) ?_
    refine g_seq ?_
    refine g_region ?_
    refine l_of (s_val (v := .int .i64 n) (wt0 rfl) rfl rfl (x_move rfl rfl) ?_)
    refine l_of (s_val (v := .bool (decide ((n : Int) < 1))) (wt0 rfl) rfl rfl (x_bin rfl rfl rfl b_lss) ?_)
    refine l_of (s_val (v := .bool (decide ((n : Int) < 1))) (wt0 rfl) rfl rfl (x_move rfl rfl) ?_)
    by_cases hb4 : (n : Int) < 1
    · skip
      refine l_of (s_not (wn1 rfl rfl rfl rfl (decide_eq_true hb4)) rfl rfl ?_)
      refine l_of (s_not (wn1 rfl rfl rfl rfl (decide_eq_true hb4)) rfl rfl ?_)
      refine l_of (s_val (v := .bool true) (wt0 rfl) rfl rfl (x_pick_t rfl rfl (decide_eq_true hb4) rfl) ?_)
      refine l_of (s_val (v := .bool true) (wt0 rfl) rfl rfl (x_move rfl rfl) ?_)
      refine l_of (s_not (wn1 rfl rfl rfl rfl rfl) rfl rfl ?_)
      refine l_of (s_not (wn1 rfl rfl rfl rfl rfl) rfl rfl ?_)
      refine l_of (s_val (v := .bool true) (wt0 rfl) rfl rfl (x_pick_t rfl rfl rfl rfl) ?_)
      refine l_of (s_val (v := .bool true) (wt0 rfl) rfl rfl (x_move rfl rfl) ?_)
      refine l_of (s_not (wn1 rfl rfl rfl rfl rfl) rfl rfl ?_)
      refine l_of (s_not (wn1 rfl rfl rfl rfl rfl) rfl rfl ?_)
      refine l_of (s_not (wn1 rfl rfl rfl rfl rfl) rfl rfl ?_)
      refine l_of (s_not (wn1 rfl rfl rfl rfl rfl) rfl rfl ?_)
      refine l_of (s_val (v := .bool true) (wt0 rfl) rfl rfl (x_pick_t rfl rfl rfl rfl) ?_)
      refine l_of (s_val (v := .bool true) (wt0 rfl) rfl rfl (x_assign rfl rfl) ?_)
      refine g_nil ?_
      refine g_then ?_
      refine g_weak [(0, .int .i64 n), (1, .int .i64 level), (2, .slice p m c), (15, .bool true)] ⟨rfl, rfl, rfl, rfl, trivial⟩ ?_
      refine g_cond_t rfl rfl ?_
      refine g_seq ?_
      refine g_region ?_
      refine l_of (s_val (v := .string (⟨#[]⟩)) (wt0 rfl) rfl rfl (x_assign rfl rfl) ?_)
      refine l_of (s_val (v := .int .i64 7) (wt0 rfl) rfl rfl (x_assign rfl rfl) ?_)
      refine g_nil ?_
      refine g_then ?_
      refine g_ret ?_
      refine g_in_ret ?_
      refine g_then_ret ?_
      refine fin_ret [.tmp 6, .tmp 7] [.string (⟨#[]⟩), .int .i64 7] rfl ⟨rfl, rfl, trivial⟩ ?_
      have hrf : rangeT n level = false := range_f (by omega)
      exact ⟨by unfold fromS; rw [if_pos hb3, if_neg (by rw [hrf]; exact Bool.false_ne_true)]; rfl, H2.mask [true]⟩
    · skip
      refine l_of (s_val (v := .int .i64 n) (wt1 rfl rfl rfl rfl (decide_eq_false hb4)) rfl rfl (x_move rfl rfl) ?_)
      refine l_of (s_val (v := .bool (decide ((4096 : Int) < n))) (wt1 rfl rfl rfl rfl (decide_eq_false hb4)) rfl rfl (x_bin rfl rfl rfl b_gtr) ?_)
      refine l_of (s_val (v := .bool (decide ((4096 : Int) < n))) (wt0 rfl) rfl rfl (x_pick_f rfl rfl (decide_eq_false hb4) rfl) ?_)
      refine l_of (s_val (v := .bool (decide ((4096 : Int) < n))) (wt0 rfl) rfl rfl (x_move rfl rfl) ?_)
      by_cases hb5 : (4096 : Int) < n
      · skip
        refine l_of (s_not (wn1 rfl rfl rfl rfl (decide_eq_true hb5)) rfl rfl ?_)
        refine l_of (s_not (wn1 rfl rfl rfl rfl (decide_eq_true hb5)) rfl rfl ?_)
        refine l_of (s_val (v := .bool true) (wt0 rfl) rfl rfl (x_pick_t rfl rfl (decide_eq_true hb5) rfl) ?_)
        refine l_of (s_val (v := .bool true) (wt0 rfl) rfl rfl (x_move rfl rfl) ?_)
        refine l_of (s_not (wn1 rfl rfl rfl rfl rfl) rfl rfl ?_)
        refine l_of (s_not (wn1 rfl rfl rfl rfl rfl) rfl rfl ?_)
        refine l_of (s_not (wn1 rfl rfl rfl rfl rfl) rfl rfl ?_)
        refine l_of (s_not (wn1 rfl rfl rfl rfl rfl) rfl rfl ?_)
        refine l_of (s_val (v := .bool true) (wt0 rfl) rfl rfl (x_pick_t rfl rfl rfl rfl) ?_)
        refine l_of (s_val (v := .bool true) (wt0 rfl) rfl rfl (x_assign rfl rfl) ?_)
        refine g_nil ?_
        refine g_then ?_
        refine g_weak [(0, .int .i64 n), (1, .int .i64 level), (2, .slice p m c), (15, .bool true)] ⟨rfl, rfl, rfl, rfl, trivial⟩ ?_
        refine g_cond_t rfl rfl ?_
        refine g_seq ?_
        refine g_region ?_
        refine l_of (s_val (v := .string (⟨#[]⟩)) (wt0 rfl) rfl rfl (x_assign rfl rfl) ?_)
        refine l_of (s_val (v := .int .i64 7) (wt0 rfl) rfl rfl (x_assign rfl rfl) ?_)
        refine g_nil ?_
        refine g_then ?_
        refine g_ret ?_
        refine g_in_ret ?_
        refine g_then_ret ?_
        refine fin_ret [.tmp 6, .tmp 7] [.string (⟨#[]⟩), .int .i64 7] rfl ⟨rfl, rfl, trivial⟩ ?_
        have hrf : rangeT n level = false := range_f (by omega)
        exact ⟨by unfold fromS; rw [if_pos hb3, if_neg (by rw [hrf]; exact Bool.false_ne_true)]; rfl, H2.mask [true]⟩
      · skip
        refine l_of (s_val (v := .int .i64 level) (wt1 rfl rfl rfl rfl (decide_eq_false hb5)) rfl rfl (x_move rfl rfl) ?_)
        refine l_of (s_val (v := .bool (decide ((level : Int) < 0))) (wt1 rfl rfl rfl rfl (decide_eq_false hb5)) rfl rfl (x_bin rfl rfl rfl b_lss) ?_)
        refine l_of (s_val (v := .bool (decide ((level : Int) < 0))) (wt0 rfl) rfl rfl (x_pick_f rfl rfl (decide_eq_false hb5) rfl) ?_)
        refine l_of (s_val (v := .bool (decide ((level : Int) < 0))) (wt0 rfl) rfl rfl (x_move rfl rfl) ?_)
        by_cases hb6 : (level : Int) < 0
        · skip
          refine l_of (s_not (wn1 rfl rfl rfl rfl (decide_eq_true hb6)) rfl rfl ?_)
          refine l_of (s_not (wn1 rfl rfl rfl rfl (decide_eq_true hb6)) rfl rfl ?_)
          refine l_of (s_not (wn1 rfl rfl rfl rfl (decide_eq_true hb6)) rfl rfl ?_)
          refine l_of (s_not (wn1 rfl rfl rfl rfl (decide_eq_true hb6)) rfl rfl ?_)
          refine l_of (s_val (v := .bool true) (wt0 rfl) rfl rfl (x_pick_t rfl rfl (decide_eq_true hb6) rfl) ?_)
          refine l_of (s_val (v := .bool true) (wt0 rfl) rfl rfl (x_assign rfl rfl) ?_)
          refine g_nil ?_
          refine g_then ?_
          refine g_weak [(0, .int .i64 n), (1, .int .i64 level), (2, .slice p m c), (15, .bool true)] ⟨rfl, rfl, rfl, rfl, trivial⟩ ?_
          refine g_cond_t rfl rfl ?_
          refine g_seq ?_
          refine g_region ?_
          refine l_of (s_val (v := .string (⟨#[]⟩)) (wt0 rfl) rfl rfl (x_assign rfl rfl) ?_)
          refine l_of (s_val (v := .int .i64 7) (wt0 rfl) rfl rfl (x_assign rfl rfl) ?_)
          refine g_nil ?_
          refine g_then ?_
          refine g_ret ?_
          refine g_in_ret ?_
          refine g_then_ret ?_
          refine fin_ret [.tmp 6, .tmp 7] [.string (⟨#[]⟩), .int .i64 7] rfl ⟨rfl, rfl, trivial⟩ ?_
          have hrf : rangeT n level = false := range_f (by omega)
          exact ⟨by unfold fromS; rw [if_pos hb3, if_neg (by rw [hrf]; exact Bool.false_ne_true)]; rfl, H2.mask [true]⟩
        · skip
          refine l_of (s_val (v := .int .i64 level) (wt1 rfl rfl rfl rfl (decide_eq_false hb6)) rfl rfl (x_move rfl rfl) ?_)
          refine l_of (s_val (v := .int .i64 n) (wt1 rfl rfl rfl rfl (decide_eq_false hb6)) rfl rfl (x_move rfl rfl) ?_)
          refine l_of (s_call (wt1 rfl rfl rfl rfl (decide_eq_false hb6)) (x_call' rfl rfl cl53) (tall_i _ (by omega) _) ?_)
          rintro _ wq7 ⟨rfl, H8⟩
          replace H8 : S wq7 [Old w no] := H2.absorb (new := []) H8
          refine b_ret rfl rfl ?_
          refine l_of (s_val (v := .bool (decide ((((tallN n.toNat : Nat) : Int) : Int) < level))) (wt1 rfl rfl rfl rfl (decide_eq_false hb6)) rfl rfl (x_bin rfl rfl rfl b_gtr) ?_)
          refine l_of (s_val (v := .bool (decide ((((tallN n.toNat : Nat) : Int) : Int) < level))) (wt0 rfl) rfl rfl (x_pick_f rfl rfl (decide_eq_false hb6) rfl) ?_)
          refine l_of (s_val (v := .bool (decide ((((tallN n.toNat : Nat) : Int) : Int) < level))) (wt0 rfl) rfl rfl (x_assign rfl rfl) ?_)
          refine g_nil ?_
          refine g_then ?_
          refine g_weak [(0, .int .i64 n), (1, .int .i64 level), (2, .slice p m c), (15, .bool (decide ((((tallN n.toNat : Nat) : Int) : Int) < level)))] ⟨rfl, rfl, rfl, rfl, trivial⟩ ?_
          by_cases hb9 : (((tallN n.toNat : Nat) : Int) : Int) < level
          · skip
            refine g_cond_t rfl (decide_eq_true hb9) ?_
            refine g_seq ?_
            refine g_region ?_
            refine l_of (s_val (v := .string (⟨#[]⟩)) (wt0 rfl) rfl rfl (x_assign rfl rfl) ?_)
            refine l_of (s_val (v := .int .i64 7) (wt0 rfl) rfl rfl (x_assign rfl rfl) ?_)
            refine g_nil ?_
            refine g_then ?_
            refine g_ret ?_
            refine g_in_ret ?_
            refine g_then_ret ?_
            refine fin_ret [.tmp 6, .tmp 7] [.string (⟨#[]⟩), .int .i64 7] rfl ⟨rfl, rfl, trivial⟩ ?_
            have hrf : rangeT n level = false := range_f (by omega)
            exact ⟨by unfold fromS; rw [if_pos hb3, if_neg (by rw [hrf]; exact Bool.false_ne_true)]; rfl, H8.mask [true]⟩
          · skip
            refine g_cond_f rfl (decide_eq_false hb9) ?_
            refine g_seq ?_
            refine g_region ?_
            exact absurd (hbad.resolve_left (by rw [hb3]; decide)) (by rw [range_t (by omega) (by omega) (by omega) (by omega)]; decide)
  · skip
    refine g_cond_t rfl (neg_of hb3) ?_
    refine g_seq ?_
    refine g_region ?_
    refine l_of (s_val (v := .string (⟨#[]⟩)) (wt0 rfl) rfl rfl (x_assign rfl rfl) ?_)
    refine l_of (s_val (v := .int .i64 1) (wt0 rfl) rfl rfl (x_assign rfl rfl) ?_)
    refine g_nil ?_
    refine g_then ?_
    refine g_ret ?_
    refine g_in_ret ?_
    refine g_then_ret ?_
    refine fin_ret [.tmp 6, .tmp 7] [.string (⟨#[]⟩), .int .i64 1] rfl ⟨rfl, rfl, trivial⟩ ?_
    exact ⟨by unfold fromS; rw [if_neg (by rw [hb3]; exact Bool.false_ne_true)]; rfl, H2.mask [true]⟩
theorem two_gt {t : Nat} (h : ¬ (1 : Int) < ((2 ^ t : Nat) : Int)) : t = 0 := by
  rcases Nat.eq_zero_or_pos t with h1 | h1
  · exact h1
  · have : 2 ^ 1 ≤ 2 ^ t := Nat.pow_le_pow_right (by omega) h1
    omega
def padS (v : Nat) (l : List ByteArray) (k : Nat) : List ByteArray := l ++ List.replicate k (zeroS v)
theorem padS_next (v : Nat) (l : List ByteArray) (k : Nat) : padS v l (k + 1) = padS v l k ++ [zeroS v] := by
  unfold padS; rw [List.replicate_succ', List.append_assoc]
theorem padS_len (v : Nat) (l : List ByteArray) (k : Nat) : (padS v l k).length = l.length + k := by unfold padS; simp
theorem padS_digs {v : Nat} {l : List ByteArray} (k : Nat) (h : digsB l = true) : digsB (padS v l k) = true := by
  unfold digsB padS at *
  rw [List.all_append, h, Bool.true_and, List.all_eq_true]
  intro s hs
  rw [List.mem_replicate] at hs
  rw [hs.2, zeroS_size]; rfl
theorem getD_stV {l : List ByteArray} {j : Nat} (h : j < l.length) : (stV l)[j * 1]? = some (.string (l.getD j ⟨#[]⟩)) := stV_at h
theorem pow_pos1 {t : Nat} (h : (1 : Int) < ((2 ^ t : Nat) : Int)) : 1 ≤ t := by
  rcases Nat.eq_zero_or_pos t with h1 | h1
  · subst h1; exact absurd h (by decide)
  · exact h1
theorem pow_half {t : Nat} (h : (1 : Int) < ((2 ^ t : Nat) : Int)) : 2 ^ t / 2 = 2 ^ (t - 1) := by
  have := pow_pos1 h
  conv => lhs; rw [show t = (t - 1) + 1 from by omega, Nat.pow_succ]
  omega
set_option maxRecDepth 20000 in
set_option maxHeartbeats 4000000 in
set_option maxRecDepth 20000 in
set_option maxHeartbeats 4000000 in
theorem from_ok (n v : Nat) (l : List ByteArray) (p : Option Addr) (m c : Nat) (hn : m = l.length) (hm : m ≤ 1099511627776) (h1 : 1 ≤ n) (h2 : n ≤ 4096) (hv : v ≤ tallN n) (hd : digsB l = true) (w : World) (hr : Reads w p m c 1 (stV l)) : Calls Try.prog 12 #[.int .i64 (n : Int), .int .i64 (v : Int), .slice p m c] w fun e w' => e = .returned (.tuple #[.string (fromS (n : Int) (v : Int) l).1, .int .i64 (fromS (n : Int) (v : Int) l).2]) ∧ S w' [Old w no] := by
  have H0 := S.old w
  have ht12 := tall_le12 h2
  have hcl := count_le h1 (by omega) hv
  have hzs := zeroS_size v
  have h4096 : 2 ^ (tallN n - v) ≤ 4096 := (Nat.pow_le_pow_right (by omega) (show tallN n - v ≤ 12 by omega))
  refine enter 67 Try.func12 rfl rfl rfl ?_
  refine g_weak [(0, .int .i64 ((n : Int))), (1, .int .i64 ((v : Int))), (2, .slice p m c)] ⟨rfl, rfl, rfl, trivial⟩ ?_
  refine g_seq ?_
  refine g_region ?_
  refine l_of (s_val (v := .string (⟨#[]⟩)) (wt0 rfl) rfl rfl (x_assign rfl rfl) ?_)
  refine l_of (s_val (v := .int .i64 0) (wt0 rfl) rfl rfl (x_assign rfl rfl) ?_)
  refine g_nil ?_
  refine g_then ?_
  refine g_seq ?_
  refine g_block ?_
  refine g_seq ?_
  refine g_region ?_
  refine l_of (s_val (v := .slice p m c) (wt0 rfl) rfl rfl (x_move rfl rfl) ?_)
  refine l_of (s_call (wt0 rfl) (x_call' rfl rfl cl52) (digests_r l p m c hn (by omega) _ (H0.oldReads (k := 0) rfl hr)) ?_)
  rintro _ wq1 ⟨rfl, H2⟩
  replace H2 : S wq1 [Old w no] := H0.absorb (new := []) H2
  refine b_ret rfl rfl ?_
  refine l_of (s_val (v := .bool (!((digsB l)))) (wt0 rfl) rfl rfl (x_not (b := (digsB l)) rfl rfl) ?_)
  refine l_of (s_val (v := .bool (!((digsB l)))) (wt0 rfl) rfl rfl (x_assign rfl rfl) ?_)
  refine g_nil ?_
  refine g_then ?_
  refine g_cond_f rfl (by rw [hd]; rfl) ?_
  refine g_seq ?_
  refine g_region ?_
  refine l_of (s_val (v := .int .i64 ((n : Int))) (wt0 rfl) rfl rfl (x_move rfl rfl) ?_)
  refine l_of (s_val (v := .bool (decide (((n : Int) : Int) < 1))) (wt0 rfl) rfl rfl (x_bin rfl rfl rfl b_lss) ?_)
  refine l_of (s_val (v := .bool (decide (((n : Int) : Int) < 1))) (wt0 rfl) rfl rfl (x_move rfl rfl) ?_)
  refine l_of (s_val (v := .int .i64 ((n : Int))) (wt1 rfl rfl rfl rfl (decide_eq_false (by omega))) rfl rfl (x_move rfl rfl) ?_)
  refine l_of (s_val (v := .bool (decide ((4096 : Int) < (n : Int)))) (wt1 rfl rfl rfl rfl (decide_eq_false (by omega))) rfl rfl (x_bin rfl rfl rfl b_gtr) ?_)
  refine l_of (s_val (v := .bool (decide ((4096 : Int) < (n : Int)))) (wt0 rfl) rfl rfl (x_pick_f rfl rfl (decide_eq_false (by omega)) rfl) ?_)
  refine l_of (s_val (v := .bool (decide ((4096 : Int) < (n : Int)))) (wt0 rfl) rfl rfl (x_move rfl rfl) ?_)
  refine l_of (s_val (v := .int .i64 ((v : Int))) (wt1 rfl rfl rfl rfl (decide_eq_false (by omega))) rfl rfl (x_move rfl rfl) ?_)
  refine l_of (s_val (v := .bool (decide (((v : Int) : Int) < 0))) (wt1 rfl rfl rfl rfl (decide_eq_false (by omega))) rfl rfl (x_bin rfl rfl rfl b_lss) ?_)
  refine l_of (s_val (v := .bool (decide (((v : Int) : Int) < 0))) (wt0 rfl) rfl rfl (x_pick_f rfl rfl (decide_eq_false (by omega)) rfl) ?_)
  refine l_of (s_val (v := .bool (decide (((v : Int) : Int) < 0))) (wt0 rfl) rfl rfl (x_move rfl rfl) ?_)
  refine l_of (s_val (v := .int .i64 ((v : Int))) (wt1 rfl rfl rfl rfl (decide_eq_false (by omega))) rfl rfl (x_move rfl rfl) ?_)
  refine l_of (s_val (v := .int .i64 ((n : Int))) (wt1 rfl rfl rfl rfl (decide_eq_false (by omega))) rfl rfl (x_move rfl rfl) ?_)
  refine l_of (s_call (wt1 rfl rfl rfl rfl (decide_eq_false (by omega))) (x_call' rfl rfl cl53) (tall_r _ (by first | omega | decide) _) ?_)
  rintro _ wq3 ⟨rfl, H4⟩
  replace H4 : S wq3 [Old w no] := H2.absorb (new := []) H4
  refine b_ret rfl rfl ?_
  refine l_of (s_val (v := .bool (decide ((((tallN n : Nat) : Int) : Int) < (v : Int)))) (wt1 rfl rfl rfl rfl (decide_eq_false (by omega))) rfl rfl (x_bin rfl rfl rfl b_gtr) ?_)
  refine l_of (s_val (v := .bool (decide ((((tallN n : Nat) : Int) : Int) < (v : Int)))) (wt0 rfl) rfl rfl (x_pick_f rfl rfl (decide_eq_false (by omega)) rfl) ?_)
  refine l_of (s_val (v := .bool (decide ((((tallN n : Nat) : Int) : Int) < (v : Int)))) (wt0 rfl) rfl rfl (x_assign rfl rfl) ?_)
  refine g_nil ?_
  refine g_then ?_
  refine g_weak [(0, .int .i64 ((n : Int))), (1, .int .i64 ((v : Int))), (2, .slice p m c), (15, .bool (decide ((((tallN n : Nat) : Int) : Int) < (v : Int))))] ⟨rfl, rfl, rfl, rfl, trivial⟩ ?_
  refine g_cond_f rfl (decide_eq_false (by omega)) ?_
  refine g_seq ?_
  refine g_region ?_
  refine l_of (s_val (v := .slice p m c) (wt0 rfl) rfl rfl (x_move rfl rfl) ?_)
  refine l_of (s_val (v := .int .i64 ((m : Int))) (wt0 rfl) rfl rfl (x_lenl rfl rfl Try.underlying22) ?_)
  refine l_of (s_val (v := .int .i64 ((n : Int))) (wt0 rfl) rfl rfl (x_move rfl rfl) ?_)
  refine l_of (s_val (v := .int .i64 ((v : Int))) (wt0 rfl) rfl rfl (x_move rfl rfl) ?_)
  refine l_of (s_call (wt0 rfl) (x_call' rfl rfl cl38) (count_r _ _ (by omega) (by omega) (by omega) _) ?_)
  rintro _ wq5 ⟨rfl, H6⟩
  replace H6 : S wq5 [Old w no] := H4.absorb (new := []) H6
  refine b_ret rfl rfl ?_
  refine l_of (s_val (v := .bool (!decide (((m : Int) : Int) = ((countN n v : Nat) : Int)))) (wt0 rfl) rfl rfl (x_bin rfl rfl rfl b_neq) ?_)
  refine l_of (s_val (v := .bool (!decide (((m : Int) : Int) = ((countN n v : Nat) : Int)))) (wt0 rfl) rfl rfl (x_assign rfl rfl) ?_)
  refine g_nil ?_
  refine g_then ?_
  by_cases hb7 : ((m : Int) : Int) = ((countN n v : Nat) : Int)
  · skip
    refine g_cond_f rfl (nf hb7) ?_
    refine g_skip ?_
    refine g_in ?_
    refine g_then ?_
    refine g_seq ?_
    refine g_region ?_
    refine l_of (s_buildSlice0 H6 (wt0 rfl) rfl rfl rfl Try.underlying22 sz9 ?_)
    intro g8 wq9 H11
    have H10 : S wq9 [Rw 9 1 (some ⟨g8, 0, none⟩) 0 0 (stV []), Old w no] := H11.obRw (k := 0) (n := 0) rfl rfl (by decide)
    refine l_of (s_val (v := .slice p m c) (wt0 rfl) rfl rfl (x_move rfl rfl) ?_)
    refine l_of (s_appendW (n := 0) (m := m) (sc := 0) (xs := stV []) (news := stV l) (p := (some ⟨g8, 0, none⟩)) (q := p) H10 0 (wt0 rfl) rfl rfl rfl rfl rfl rfl Try.underlying22 inf9 rfl (by decide) (by decide) (H10.oldReads (k := 1) rfl hr) (stV_one l) (by omega) ?_)
    intro p12 c13 wq14 H15
    replace H15 : S wq14 [Rw 9 1 p12 (m + 0) c13 (stV (padS v l 0)), Old w no] := by unfold padS; rw [List.replicate_zero, List.append_nil, Nat.add_zero]; rw [Nat.zero_add] at H15; exact H15
    rw [show (0 + m) = m + 0 from by omega]
    refine l_of (s_val (v := .slice p12 (m + 0) c13) (wt0 rfl) rfl rfl (x_assign rfl rfl) ?_)
    refine g_nil ?_
    refine g_then ?_
    refine g_weak [(0, .int .i64 ((n : Int))), (1, .int .i64 ((v : Int))), (8, .slice p12 (m + 0) c13)] ⟨rfl, rfl, rfl, trivial⟩ ?_
    refine g_seq ?_
    refine g_region ?_
    refine l_of (s_val (v := .int .i64 ((v : Int))) (wt0 rfl) rfl rfl (x_move rfl rfl) ?_)
    refine l_of (s_call (wt0 rfl) (x_call' rfl rfl cl19) (zeroAt_r _ (by omega) _) ?_)
    rintro _ wq16 ⟨rfl, H17⟩
    replace H17 : S wq16 [Rw 9 1 p12 (m + 0) c13 (stV (padS v l 0)), Old w no] := H15.absorb (new := []) H17
    refine b_ret rfl rfl ?_
    refine l_of (s_val (v := .tuple #[.string ((zeroS v)), .int .i64 0]) (wt0 rfl) rfl rfl (x_move rfl rfl) ?_)
    refine l_of (s_val (v := .string ((zeroS v))) (wt0 rfl) rfl rfl (x_extract rfl rfl rfl) ?_)
    refine l_of (s_val (v := .int .i64 0) (wt0 rfl) rfl rfl (x_extract rfl rfl rfl) ?_)
    refine l_of (s_val (v := .string ((zeroS v))) (wt0 rfl) rfl rfl (x_assign rfl rfl) ?_)
    refine l_of (s_val (v := .int .i64 0) (wt0 rfl) rfl rfl (x_assign rfl rfl) ?_)
    refine g_nil ?_
    refine g_then ?_
    refine g_seq ?_
    refine g_block ?_
    refine g_loop (ι := Nat × Option Addr × Nat) (fun (k, q, d) => [(0, .int .i64 ((n : Int))), (1, .int .i64 ((v : Int))), (8, .slice q (m + k) d), (9, .string ((zeroS v)))]) (fun (k, q, d) wx => (m + k ≤ 2 ^ (tallN n - v)) ∧ S wx [Rw 9 1 q (m + k) d (stV (padS v l k)), Old w no]) (fun (k, q, d) => 2 ^ (tallN n - v) - (m + k)) (0, p12, c13) ⟨rfl, rfl, rfl, rfl, trivial⟩ ⟨by omega, (H17.takes [0, 1] (by decide))⟩ ?_
    rintro ⟨k, q, d⟩ wq18 ⟨hk, H19⟩
    replace H19 : S wq18 [Rw 9 1 q (m + k) d (stV (padS v l k)), Old w no] := H19
    refine g_weak [(0, .int .i64 ((n : Int))), (1, .int .i64 ((v : Int))), (8, .slice q (m + k) d), (9, .string ((zeroS v)))] ⟨rfl, rfl, rfl, rfl, trivial⟩ ?_
    refine g_seq ?_
    refine g_seq ?_
    refine g_region ?_
    refine l_of (s_val (v := .slice q (m + k) d) (wt0 rfl) rfl rfl (x_move rfl rfl) ?_)
    refine l_of (s_val (v := .int .i64 (((m + k) : Int))) (wt0 rfl) rfl rfl (x_lenl rfl rfl Try.underlying22) ?_)
    refine l_of (s_val (v := .int .i64 ((n : Int))) (wt0 rfl) rfl rfl (x_move rfl rfl) ?_)
    refine l_of (s_call (wt0 rfl) (x_call' rfl rfl cl53) (tall_r _ (by first | omega | decide) _) ?_)
    rintro _ wq20 ⟨rfl, H21⟩
    replace H21 : S wq20 [Rw 9 1 q (m + k) d (stV (padS v l k)), Old w no] := H19.absorb (new := []) H21
    refine b_ret rfl rfl ?_
    refine l_of (s_val (v := .int .i64 ((v : Int))) (wt0 rfl) rfl rfl (x_move rfl rfl) ?_)
    refine l_of (s_val (v := .int .i64 (((tallN n - v : Nat) : Int))) (wt0 rfl) rfl rfl (x_bin rfl rfl rfl (b_subN (a := tallN n) (b := v) (by omega))) ?_)
    refine l_of (s_call (wt0 rfl) (x_call' rfl rfl cl54) (two_r _ (by omega) _) ?_)
    rintro _ wq22 ⟨rfl, H23⟩
    replace H23 : S wq22 [Rw 9 1 q (m + k) d (stV (padS v l k)), Old w no] := H21.absorb (new := []) H23
    refine b_ret rfl rfl ?_
    refine l_of (s_val (v := .bool (decide ((((m + k) : Int) : Int) < ((2 ^ (tallN n - v) : Nat) : Int)))) (wt0 rfl) rfl rfl (x_bin rfl rfl rfl b_lss) ?_)
    refine g_nil ?_
    refine g_then ?_
    by_cases hb24 : (((m + k) : Int) : Int) < ((2 ^ (tallN n - v) : Nat) : Int)
    · skip
      refine g_cond_t rfl (decide_eq_true hb24) ?_
      refine g_skip ?_
      refine g_then ?_
      refine g_block ?_
      refine g_region ?_
      refine l_of (s_val (v := .slice q (m + k) d) (wt0 rfl) rfl rfl (x_move rfl rfl) ?_)
      refine l_of (s_val (v := .string ((zeroS v))) (wt0 rfl) rfl rfl (x_move rfl rfl) ?_)
      refine l_of (s_buildSlice H23 (wt0 rfl) rfl rfl rfl (vs := [.string ((zeroS v))]) rfl Try.underlying22 sz9 ze9 rfl rfl (cells := #[.string ((zeroS v))]) (by kernel_rfl) ?_)
      intro g25 wq26 H27
      refine l_of (s_appendR (n := (m + k)) (m := 1) (sc := d) (xs := (stV (padS v l k))) (news := [.string ((zeroS v))]) (p := q) (ad := ⟨g25, 0, none⟩) H27 1 (wt0 rfl) rfl rfl rfl rfl rfl rfl Try.underlying22 inf9 rfl (by decide) (by decide) rfl (by decide) (news_ob H27 (j0 := 0) rfl) rfl (by omega) ?_)
      intro p28 c29 wq30 (H31 : S wq30 [Ob g25 (.cells #[.string ((zeroS v))] 9 (0, 0)), Rw 9 1 p28 ((m + k) + 1) c29 ((stV (padS v l k)) ++ [.string ((zeroS v))]), Old w no])
      refine l_of (s_val (v := .slice p28 ((m + k) + 1) c29) (wt0 rfl) rfl rfl (x_assign rfl rfl) ?_)
      refine g_nil ?_
      refine g_in ?_
      refine g_then ?_
      refine g_round (i := (k, q, d)) (k + 1, p28, c29) ?_ ?_ ?_
      · exact ⟨rfl, rfl, rfl, rfl, trivial⟩
      · exact ⟨by omega, (by rw [padS_next, stV_snoc]; exact (H31.takes [1, 2] (by decide)))⟩
      · (try dsimp only); omega
    · skip
      refine g_cond_f rfl (decide_eq_false hb24) ?_
      refine g_exit ?_
      refine g_then_exit ?_
      refine g_then_exit ?_
      refine g_in_hit ?_
      refine g_then ?_
      refine g_seq ?_
      refine g_block ?_
      have hmk32 : m + k = 2 ^ (tallN n - v) := by omega
      rw [hmk32] at H23 ⊢
      refine g_loop (ι := Nat × List ByteArray × Option Addr × Nat) (fun (t, L, q, d) => [(8, .slice q (2 ^ t) d)]) (fun (t, L, q, d) wx => (t ≤ 12) ∧ (L.length = 2 ^ t) ∧ (digsB L = true) ∧ (upN t L = upN (tallN n - v) (rowT n v l)) ∧ S wx [Rw 9 1 q (2 ^ t) d (stV L), Old w no]) (fun (t, L, q, d) => t) ((tallN n - v), (padS v l (2 ^ (tallN n - v) - m)), q, d) ⟨rfl, trivial⟩ ⟨by omega, by rw [padS_len]; omega, padS_digs _ hd, by unfold rowT padS; rw [hn], (by rw [show 2 ^ (tallN n - v) - m = k from by omega]; exact (H23.takes [0, 1] (by decide)))⟩ ?_
      rintro ⟨t, L, q, d⟩ wq34 ⟨ht, hL, hdL, hup, H35⟩
      replace H35 : S wq34 [Rw 9 1 q (2 ^ t) d (stV L), Old w no] := H35
      refine g_weak [(8, .slice q (2 ^ t) d)] ⟨rfl, trivial⟩ ?_
      refine g_seq ?_
      refine g_seq ?_
      refine g_region ?_
      refine l_of (s_val (v := .slice q (2 ^ t) d) (wt0 rfl) rfl rfl (x_move rfl rfl) ?_)
      refine l_of (s_val (v := .int .i64 (((2 ^ t) : Int))) (wt0 rfl) rfl rfl (x_lenl rfl rfl Try.underlying22) ?_)
      refine l_of (s_val (v := .bool (decide ((1 : Int) < ((2 ^ t) : Int)))) (wt0 rfl) rfl rfl (x_bin rfl rfl rfl b_gtr) ?_)
      refine g_nil ?_
      refine g_then ?_
      by_cases hb36 : (1 : Int) < ((2 ^ t) : Int)
      · skip
        refine g_cond_t rfl (decide_eq_true hb36) ?_
        refine g_skip ?_
        refine g_then ?_
        refine g_block ?_
        refine g_region ?_
        refine l_of (s_val (v := .slice q (2 ^ t) d) (wt0 rfl) rfl rfl (x_move rfl rfl) ?_)
        refine l_of (s_call (wt0 rfl) (x_call' rfl rfl cl55) (up_p t L hb36 hL (by omega) hdL _ _ _ (H35.rwReads (k := 0) rfl)) ?_)
        rintro _ wq39 ⟨p37, c38, rfl, H40⟩
        replace H40 : S wq39 [Rw 9 1 p37 (2 ^ (t - 1)) c38 (stV (upS L)), Rw 9 1 q (2 ^ t) d (stV L), Old w no] := H35.absorb (new := [Rw 9 1 p37 (2 ^ (t - 1)) c38 (stV (upS L))]) H40
        refine b_ret rfl rfl ?_
        refine l_of (s_val (v := .slice p37 (2 ^ (t - 1)) c38) (wt0 rfl) rfl rfl (x_assign rfl rfl) ?_)
        refine g_nil ?_
        refine g_in ?_
        refine g_then ?_
        refine g_round (i := (t, L, q, d)) (t - 1, upS L, p37, c38) ?_ ?_ ?_
        · exact ⟨rfl, trivial⟩
        · exact ⟨by omega, (by rw [upS_len, hL]; exact pow_half hb36), upS_digs L, (by rw [← hup]; obtain ⟨s, rfl⟩ : ∃ s, t = s + 1 := ⟨t - 1, by have := pow_pos1 hb36; omega⟩; rfl), (H40.takes [0, 2] (by decide))⟩
        · have := pow_pos1 hb36; (try dsimp only); omega
      · skip
        refine g_cond_f rfl (decide_eq_false hb36) ?_
        refine g_exit ?_
        refine g_then_exit ?_
        refine g_then_exit ?_
        refine g_in_hit ?_
        refine g_then ?_
        refine g_seq ?_
        refine g_region ?_
        have ht0 : t = 0 := two_gt hb36
        have hp1 : 2 ^ t = 1 := by rw [ht0]
        refine l_of (s_val (v := .slice q (2 ^ t) d) (wt0 rfl) rfl rfl (x_move rfl rfl) ?_)
        refine l_of (s_val (v := .pointer ((q).map fun q => q.add (0 * 1))) (wt0 rfl) rfl rfl (x_idxR 0 (H35.rwReads (k := 0) rfl) rfl rfl rfl Try.underlying22 sz9 (by omega)) ?_)
        refine l_of (s_val (v := .string ((L.getD (0) ⟨#[]⟩))) (wt0 rfl) rfl rfl (x_loadR1 0 (H35.rwReads (k := 0) rfl) (by omega) rfl rfl Try.underlying9 rfl (stV_at (by omega))) ?_)
        refine l_of (s_val (v := .string ((L.getD (0) ⟨#[]⟩))) (wt0 rfl) rfl rfl (x_assign rfl rfl) ?_)
        refine l_of (s_val (v := .int .i64 0) (wt0 rfl) rfl rfl (x_assign rfl rfl) ?_)
        refine g_nil ?_
        refine g_then ?_
        refine g_ret ?_
        refine fin_ret [.tmp 6, .tmp 7] [.string ((L.getD (0) ⟨#[]⟩)), .int .i64 0] rfl ⟨rfl, rfl, trivial⟩ ?_
        subst ht0
        have hup0 : upN 0 L = L := rfl
        rw [hup0] at hup
        exact ⟨by unfold fromS; rw [if_pos hd, if_pos (range_t (by omega) (by omega) (by omega) (by simp only [Int.toNat_natCast]; omega)), if_pos (by simp only [Int.toNat_natCast]; omega)]; simp only [Int.toNat_natCast]; rw [← hup]; rfl, H35.mask [false, true]⟩
  · skip
    refine g_cond_t rfl (nt hb7) ?_
    refine g_seq ?_
    refine g_region ?_
    refine l_of (s_val (v := .string (⟨#[]⟩)) (wt0 rfl) rfl rfl (x_assign rfl rfl) ?_)
    refine l_of (s_val (v := .int .i64 11) (wt0 rfl) rfl rfl (x_assign rfl rfl) ?_)
    refine g_nil ?_
    refine g_then ?_
    refine g_ret ?_
    refine g_in_ret ?_
    refine g_then_ret ?_
    refine fin_ret [.tmp 6, .tmp 7] [.string (⟨#[]⟩), .int .i64 11] rfl ⟨rfl, rfl, trivial⟩ ?_
    exact ⟨by unfold fromS; rw [if_pos hd, if_pos (range_t (by omega) (by omega) (by omega) (by simp only [Int.toNat_natCast]; omega)), if_neg (by simp only [Int.toNat_natCast]; omega)]; rfl, H6.mask [true]⟩
theorem from_r (n level : Int) (l : List ByteArray) (p : Option Addr) (m c : Nat) (hn : m = l.length) (hm : m ≤ 1099511627776) (w : World) (hr : Reads w p m c 1 (stV l)) : Calls Try.prog 12 #[.int .i64 n, .int .i64 level, .slice p m c] w fun e w' => e = .returned (.tuple #[.string (fromS n level l).1, .int .i64 (fromS n level l).2]) ∧ S w' [Old w no] := by
  cases hd : digsB l with
  | false => exact from_bad n level l p m c hn hm (.inl hd) w hr
  | true =>
    cases hg : rangeT n level with
    | false => exact from_bad n level l p m c hn hm (.inr hg) w hr
    | true =>
      obtain ⟨g1, g2, g3, g4⟩ := range_spec hg
      have e1 : n = (n.toNat : Int) := by omega
      have e2 : level = (level.toNat : Int) := by omega
      have := from_ok n.toNat level.toNat l p m c hn hm (by omega) (by omega) (by omega) hd w hr
      rw [← e1, ← e2] at this
      exact this
end Go.Proofs.Ytlajgickimgigaa
