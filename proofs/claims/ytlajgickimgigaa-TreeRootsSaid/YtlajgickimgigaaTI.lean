import Derived.Test.YtlajgickimgigaaTH
set_option linter.unusedSimpArgs false
set_option linter.unusedVariables false
namespace Go.Proofs.Ytlajgickimgigaa
open Go.RowKit

set_option maxRecDepth 20000 in
set_option maxHeartbeats 4000000 in
theorem chunk_s (p : Option Addr) (n c : Nat)  (w : World) : Calls Try.prog 92 #[.slice p n c, .int .i64 2] w fun e w' => ∃ g1 g2, e = .returned (.func (.func 109) #[] #[.pointer (some ⟨g1, 0, none⟩), .pointer (some ⟨g2, 0, none⟩)]) ∧ S w' ([Ob g2 (.cells #[.int .i64 2] 3 (0, 0)), Ob g1 (.cells #[.slice p n c] 22 (0, 0))] ++ [Old w no]) := by
  have H0 := S.old w
  refine enter 9 Try.func92 rfl rfl rfl ?_
  refine g_weak [(0, .slice p n c), (1, .int .i64 2)] ⟨rfl, rfl, trivial⟩ ?_
  refine g_seq ?_
  refine g_region ?_
  refine l_of (s_box H0 (wt0 rfl) rfl rfl rfl rfl ?_)
  intro g1 wq2 H3
  refine l_of (s_box H3 (wt0 rfl) rfl rfl rfl rfl ?_)
  intro g4 wq5 H6
  refine l_of (s_val (v := .nilFunc) (wt0 rfl) rfl rfl (x_assign rfl rfl) ?_)
  refine g_nil ?_
  refine g_then ?_
  refine g_seq ?_
  refine g_seq ?_
  refine g_region ?_
  refine l_of (s_val (v := .int .i64 2) (wt0 rfl) rfl rfl (x_load1 H6 0 rfl rfl Try.underlying3 rfl rfl rfl) ?_)
  refine l_of (s_val (v := .bool (decide ((2 : Int) < 1))) (wt0 rfl) rfl rfl (x_bin rfl rfl rfl b_lss) ?_)
  refine g_nil ?_
  refine g_then ?_
  refine g_cond_f rfl (by decide) ?_
  refine g_skip ?_
  refine g_then ?_
  refine g_seq ?_
  refine g_region ?_
  refine l_of (s_val (v := .func (.func 109) #[] #[.pointer (some ⟨g1, 0, none⟩), .pointer (some ⟨g4, 0, none⟩)]) (wt0 rfl) rfl rfl (x_makeFunc rfl rfl rfl) ?_)
  refine l_of (s_val (v := .func (.func 109) #[] #[.pointer (some ⟨g1, 0, none⟩), .pointer (some ⟨g4, 0, none⟩)]) (wt0 rfl) rfl rfl (x_assign rfl rfl) ?_)
  refine g_nil ?_
  refine g_then ?_
  refine g_ret ?_
  refine fin_ret [.tmp 4] [.func (.func 109) #[] #[.pointer (some ⟨g1, 0, none⟩), .pointer (some ⟨g4, 0, none⟩)]] rfl ⟨rfl, trivial⟩ ?_
  exact ⟨_, _, rfl, H6⟩
set_option maxRecDepth 20000 in
set_option maxHeartbeats 4000000 in
theorem clip_s (p : Option Addr) (n c : Nat) (hc : n ≤ c) (w : World) : Calls Try.prog 95 #[.slice p n c] w fun e w' => e = .returned (.slice (if n = 0 then p else p.map fun q => q.add (0 * 1)) n n) ∧ S w' [Old w no] := by
  have H0 := S.old w
  refine enter 9 Try.func95 rfl rfl rfl ?_
  refine g_weak [(0, .slice p n c)] ⟨rfl, trivial⟩ ?_
  refine g_seq ?_
  refine g_region ?_
  refine l_of (s_val (v := .slice none 0 0) (wt0 rfl) rfl rfl (x_assign rfl rfl) ?_)
  refine g_nil ?_
  refine g_then ?_
  refine g_seq ?_
  refine g_region ?_
  refine l_of (s_val (v := .slice p n c) (wt0 rfl) rfl rfl (x_move rfl rfl) ?_)
  refine l_of (s_val (v := .slice p n c) (wt0 rfl) rfl rfl (x_move rfl rfl) ?_)
  refine l_of (s_val (v := .int .i64 ((n : Int))) (wt0 rfl) rfl rfl (x_lenl rfl rfl Try.underlying22) ?_)
  refine l_of (s_val (v := .slice p n c) (wt0 rfl) rfl rfl (x_move rfl rfl) ?_)
  refine l_of (s_val (v := .int .i64 ((n : Int))) (wt0 rfl) rfl rfl (x_lenl rfl rfl Try.underlying22) ?_)
  refine l_of (s_val (v := .slice (if n = 0 then p else p.map fun q => q.add (0 * 1)) n n) (wt0 rfl) rfl rfl (x_clip n n rfl rfl rfl rfl Try.underlying22 sz9 (by omega)) ?_)
  refine l_of (s_val (v := .slice (if n = 0 then p else p.map fun q => q.add (0 * 1)) n n) (wt0 rfl) rfl rfl (x_assign rfl rfl) ?_)
  refine g_nil ?_
  refine g_then ?_
  refine g_ret ?_
  refine fin_ret [.tmp 2] [.slice (if n = 0 then p else p.map fun q => q.add (0 * 1)) n n] rfl ⟨rfl, trivial⟩ ?_
  exact ⟨rfl, H0.mask [true]⟩
set_option maxRecDepth 20000 in
set_option maxHeartbeats 4000000 in
set_option maxRecDepth 20000 in
set_option maxHeartbeats 4000000 in
theorem chunk_it {n0 q : Nat} {p : Option Addr} {g1 g2 n c : Nat} {base : Item} (hn : n = 2 * q) (hc : n ≤ c) (hn6 : n ≤ 1099511627776) :
    IterS n0 Try.prog 109 #[.pointer (some ⟨g1, 0, none⟩), .pointer (some ⟨g2, 0, none⟩)] (encP p) base (fun pre i _ => i = pre.length ∧ i < q) (fun _ => True) (fun xs => xs = List.range q) (fun _ => True) (Big [Ob g2 (.cells #[.int .i64 2] 3 (0, 0)), Ob g1 (.cells #[.slice p n c] 22 (0, 0))]) := by
  intro l J Jx W C hOk hY h0 HS
  have H0 := HS.open1
  replace H0 : S W [base, Ob g2 (.cells #[.int .i64 2] 3 (0, 0)), Ob g1 (.cells #[.slice p n c] 22 (0, 0)), C] := H0
  refine enter_ci 31 Try.func109 rfl rfl rfl ?_
  have hL : ¬ LetsOut (bodyPost Try.prog Try.f109 fun e W' => (∃ v, e = .returned v) ∧ ((∃ xs C, xs = List.range q ∧ J xs C ∧ S W' [base, C]) ∨ (∃ pre C, True ∧ Jx pre C ∧ S W' [base, C]))) := by
    rintro ⟨_, _, ⟨_, h⟩, _⟩
    cases h
  refine g_weak [(0, .func (.yield l) #[] #[]), (1, .pointer (some ⟨g1, 0, none⟩)), (2, .pointer (some ⟨g2, 0, none⟩))] ⟨rfl, rfl, rfl, trivial⟩ ?_
  refine R.g_seq ?_
  refine R.g_region ?_
  refine R.l_of rfl (fun h => hL h) (s_val (v := .int .i64 0) (wt0 rfl) rfl rfl (x_assign rfl rfl) ?_)
  refine R.g_nil ?_
  refine g_then ?_
  refine R.g_block ?_
  refine R.g_loop (ι := Nat × Item) (fun (k, C1) => [(0, .func (.yield l) #[] #[]), (1, .pointer (some ⟨g1, 0, none⟩)), (2, .pointer (some ⟨g2, 0, none⟩)), (4, .int .i64 (((2 * k : Nat) : Int)))]) (fun (k, C1) wx => (k ≤ q) ∧ (J (List.range k) C1) ∧ S wx [base, Ob g2 (.cells #[.int .i64 2] 3 (0, 0)), Ob g1 (.cells #[.slice p n c] 22 (0, 0)), C1]) (fun (k, C1) => q - k) (0, C) ⟨rfl, rfl, rfl, rfl, trivial⟩ ⟨Nat.zero_le _, h0, H0⟩ ?_
  rintro ⟨k, C1⟩ wq1 ⟨hk, hJ0, H2⟩
  replace H2 : S wq1 [base, Ob g2 (.cells #[.int .i64 2] 3 (0, 0)), Ob g1 (.cells #[.slice p n c] 22 (0, 0)), C1] := H2
  refine g_weak [(0, .func (.yield l) #[] #[]), (1, .pointer (some ⟨g1, 0, none⟩)), (2, .pointer (some ⟨g2, 0, none⟩)), (4, .int .i64 (((2 * k : Nat) : Int)))] ⟨rfl, rfl, rfl, rfl, trivial⟩ ?_
  refine R.g_seq ?_
  refine R.g_seq ?_
  refine R.g_region ?_
  refine R.l_of rfl (fun h => hL h) (s_val (v := .int .i64 (((2 * k : Nat) : Int))) (wt0 rfl) rfl rfl (x_move rfl rfl) ?_)
  refine R.l_of rfl (fun h => hL h) (s_val (v := .slice p n c) (wt0 rfl) rfl rfl (x_load1 H2 2 rfl rfl Try.underlying22 rfl rfl rfl) ?_)
  refine R.l_of rfl (fun h => hL h) (s_val (v := .int .i64 ((n : Int))) (wt0 rfl) rfl rfl (x_lenl rfl rfl Try.underlying22) ?_)
  refine R.l_of rfl (fun h => hL h) (s_val (v := .bool (decide ((((2 * k : Nat) : Int) : Int) < (n : Int)))) (wt0 rfl) rfl rfl (x_bin rfl rfl rfl b_lss) ?_)
  refine R.g_nil ?_
  refine g_then ?_
  by_cases hb3 : (((2 * k : Nat) : Int) : Int) < (n : Int)
  · skip
    have hkq : k < q := by omega
    refine R.g_cond_t rfl (decide_eq_true hb3) ?_
    refine R.g_skip ?_
    refine g_then ?_
    refine R.g_seq ?_
    refine R.g_block ?_
    refine R.g_seq ?_
    refine R.g_anyY [] (fun wx => S wx [Ob g2 (.cells #[.int .i64 2] 3 (0, 0)), Ob g1 (.cells #[.slice p n c] 22 (0, 0))]) (fun wx => S wx [Ob g2 (.cells #[.int .i64 2] 3 (0, 0)), Ob g1 (.cells #[.slice p n c] 22 (0, 0))]) [] (by kernel_rfl) (by kernel_rfl) (fun h => hL h) H2 (fun wq4 H5 => ?_)
    refine y_take (v := .int .i64 2) 0 rfl (wt0 rfl) rfl rfl rfl (by kernel_rfl) (by kernel_rfl) (by kernel_rfl) (by kernel_rfl) (by kernel_rfl) (H5.mask [false, true, true, false]) (fun wx H => x_load1 H 0 rfl rfl Try.underlying3 rfl rfl rfl) ?_
    refine y_take (v := .slice p n c) 1 rfl (wt0 rfl) rfl rfl rfl (by kernel_rfl) (by kernel_rfl) (by kernel_rfl) (by kernel_rfl) (by kernel_rfl) (H5.mask [false, true, true, false]) (fun wx H => x_load1 H 1 rfl rfl Try.underlying22 rfl rfl rfl) ?_
    refine y_pure (v := .int .i64 (((2 * k : Nat) : Int))) 2 rfl (wt0 rfl) rfl rfl rfl (by kernel_rfl) (by kernel_rfl) (by kernel_rfl) (by kernel_rfl) (fun wx => x_move rfl rfl) ?_
    refine y_pure (v := .slice (cutP p (2 * k) c 1) ((n - 2 * k) : Nat) ((c - 2 * k) : Nat)) 3 rfl (wt0 rfl) rfl rfl rfl (by kernel_rfl) (by kernel_rfl) (by kernel_rfl) (by kernel_rfl) (fun wx => x_cut (2 * k) rfl rfl rfl Try.underlying22 sz9 (by omega)) ?_
    refine y_pure (v := .int .i64 ((((n - 2 * k) : Nat) : Int))) 4 rfl (wt0 rfl) rfl rfl rfl (by kernel_rfl) (by kernel_rfl) (by kernel_rfl) (by kernel_rfl) (fun wx => x_lenl rfl rfl Try.underlying22) ?_
    refine y_pure (v := .int .i64 2) 5 rfl (wt0 rfl) rfl rfl rfl (by kernel_rfl) (by kernel_rfl) (by kernel_rfl) (by kernel_rfl) (fun wx => ex_cast (x_min rfl rfl rfl) (congrArg (Value.int .i64) (by omega))) ?_
    refine y_pure (v := .int .i64 2) 6 rfl (wt0 rfl) rfl rfl rfl (by kernel_rfl) (by kernel_rfl) (by kernel_rfl) (by kernel_rfl) (fun wx => x_assign rfl rfl) ?_
    refine y_done (by kernel_rfl) ?_
    refine g_then ?_
    refine R.g_seq ?_
    refine R.g_region ?_
    refine R.l_of rfl (fun h => hL h) (s_val (v := .func (.yield l) #[] #[]) (wt0 rfl) rfl rfl (x_move rfl rfl) ?_)
    refine R.l_of rfl (fun h => hL h) (s_val (v := .slice p n c) (wt0 rfl) rfl rfl (x_load1 H5 2 rfl rfl Try.underlying22 rfl rfl rfl) ?_)
    refine R.l_of rfl (fun h => hL h) (s_val (v := .int .i64 (((2 * k : Nat) : Int))) (wt0 rfl) rfl rfl (x_move rfl rfl) ?_)
    refine R.l_of rfl (fun h => hL h) (s_val (v := .int .i64 (((2 * k : Nat) : Int))) (wt0 rfl) rfl rfl (x_move rfl rfl) ?_)
    refine R.l_of rfl (fun h => hL h) (s_val (v := .int .i64 2) (wt0 rfl) rfl rfl (x_move rfl rfl) ?_)
    refine R.l_of rfl (fun h => hL h) (s_val (v := .int .i64 (((2 * k + 2 : Nat) : Int))) (wt0 rfl) rfl rfl (x_bin rfl rfl rfl (b_addN (a := 2 * k) (b := 2) (by omega))) ?_)
    refine R.l_of rfl (fun h => hL h) (s_val (v := .int .i64 (((2 * k : Nat) : Int))) (wt0 rfl) rfl rfl (x_move rfl rfl) ?_)
    refine R.l_of rfl (fun h => hL h) (s_val (v := .int .i64 2) (wt0 rfl) rfl rfl (x_move rfl rfl) ?_)
    refine R.l_of rfl (fun h => hL h) (s_val (v := .int .i64 (((2 * k + 2 : Nat) : Int))) (wt0 rfl) rfl rfl (x_bin rfl rfl rfl (b_addN (a := 2 * k) (b := 2) (by omega))) ?_)
    refine R.l_of rfl (fun h => hL h) (s_val (v := .slice (p.map fun q => q.add (2 * k * 1)) 2 2) (wt0 rfl) rfl rfl (ex_cast (x_slice3R (2 * k) (2 * k + 2) (2 * k + 2) rfl rfl rfl rfl rfl Try.underlying22 sz9 (by omega)) (by rw [Nat.add_sub_cancel_left])) ?_)
    refine l_yield (wt0 rfl) rfl rfl rfl rfl rfl (hY (List.range k) k wq4 _ C1 hJ0 ⟨by simp, hkq⟩ (S.close1 (L := [_, _]) H5)) ?_
    rintro _ wq6 (⟨rfl, C2, hJ2, hS2⟩ | ⟨rfl, C2, hJx, hS2⟩)
    · skip
      refine ⟨_, rfl, ?_⟩
      have H7 : S wq6 [base, Ob g2 (.cells #[.int .i64 2] 3 (0, 0)), Ob g1 (.cells #[.slice p n c] 22 (0, 0)), C2] := hS2.open1
      rw [← List.range_succ] at hJ2
      refine R.l_of rfl (fun h => hL h) (s_val (v := .bool false) (wt0 rfl) rfl rfl (x_not (b := true) rfl rfl) ?_)
      refine R.g_nil ?_
      refine g_then ?_
      refine g_weak [(0, .func (.yield l) #[] #[]), (1, .pointer (some ⟨g1, 0, none⟩)), (2, .pointer (some ⟨g2, 0, none⟩)), (4, .int .i64 (((2 * k : Nat) : Int))), (30, .bool false)] ⟨rfl, rfl, rfl, rfl, rfl, trivial⟩ ?_
      refine R.g_cond_f rfl rfl ?_
      refine R.g_skip ?_
      refine g_in ?_
      refine g_then ?_
      refine R.g_region ?_
      refine R.l_of rfl (fun h => hL h) (s_val (v := .int .i64 (((2 * k : Nat) : Int))) (wt0 rfl) rfl rfl (x_move rfl rfl) ?_)
      refine R.l_of rfl (fun h => hL h) (s_val (v := .int .i64 2) (wt0 rfl) rfl rfl (x_load1 H7 1 rfl rfl Try.underlying3 rfl rfl rfl) ?_)
      refine R.l_of rfl (fun h => hL h) (s_val (v := .int .i64 (((2 * (k + 1) : Nat) : Int))) (wt0 rfl) rfl rfl (x_bin rfl rfl rfl (b_add (by rw [w64 (by omega)]; omega))) ?_)
      refine R.l_of rfl (fun h => hL h) (s_val (v := .int .i64 (((2 * (k + 1) : Nat) : Int))) (wt0 rfl) rfl rfl (x_assign rfl rfl) ?_)
      refine R.g_nil ?_
      refine g_then ?_
      refine g_round (i := (k, C1)) (k + 1, C2) ?_ ?_ ?_
      · exact ⟨rfl, rfl, rfl, rfl, trivial⟩
      · exact ⟨by omega, hJ2, H7⟩
      · (try dsimp only); omega
    · skip
      refine ⟨_, rfl, ?_⟩
      have H8 : S wq6 [base, Ob g2 (.cells #[.int .i64 2] 3 (0, 0)), Ob g1 (.cells #[.slice p n c] 22 (0, 0)), C2] := hS2.open1
      refine R.l_of rfl (fun h => hL h) (s_val (v := .bool true) (wt0 rfl) rfl rfl (x_not (b := false) rfl rfl) ?_)
      refine R.g_nil ?_
      refine g_then ?_
      refine g_weak [(0, .func (.yield l) #[] #[]), (1, .pointer (some ⟨g1, 0, none⟩)), (2, .pointer (some ⟨g2, 0, none⟩)), (4, .int .i64 (((2 * k : Nat) : Int))), (30, .bool true)] ⟨rfl, rfl, rfl, rfl, rfl, trivial⟩ ?_
      refine R.g_cond_t rfl rfl ?_
      refine R.g_ret ?_
      refine g_in_ret ?_
      refine g_then_ret ?_
      refine g_then_ret ?_
      refine g_in_ret ?_
      refine fin_ret [] [] rfl trivial ?_
      exact ⟨⟨_, rfl⟩, .inr ⟨_, _, trivial, hJx, (H8.mask [true, false, false, true])⟩⟩
  · skip
    refine R.g_cond_f rfl (decide_eq_false hb3) ?_
    refine R.g_exit ?_
    refine g_then_exit ?_
    refine g_then_exit ?_
    refine g_in_hit ?_
    refine fin_end [] [] rfl trivial ?_
    have hk2 : k = q := by omega
    subst hk2
    exact ⟨⟨_, rfl⟩, .inl ⟨_, _, rfl, hJ0, (H2.mask [true, false, false, true])⟩⟩
end Go.Proofs.Ytlajgickimgigaa
