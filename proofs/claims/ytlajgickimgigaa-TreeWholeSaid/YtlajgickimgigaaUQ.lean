import Derived.Test.YtlajgickimgigaaUP
set_option linter.unusedSimpArgs false
set_option linter.unusedVariables false
namespace Go.Proofs.Ytlajgickimgigaa
open Go.RowKit

theorem cl28 : callable Try.prog 28 = true := by kernel_rfl
theorem cl29 : callable Try.prog 29 = true := by kernel_rfl
theorem int_lt {n : Int} (h : (Lit.int .i64 n).wf = true) : n < 9223372036854775808 := by
  have h2 : IntKind.i64.max = 9223372036854775807 := by decide
  simp [Lit.wf, h2] at h; omega
theorem uncles_len {l : List ByteArray} {v i : Int} : (unclesS l v i).1.length ≤ 4096 := by
  unfold unclesS
  split
  · split
    · rename_i h1 h2
      obtain ⟨a1, a2, a3⟩ := check_spec h1
      have := tall_le12 a2
      show (uncTo l _ _ _).length ≤ _
      rw [uncTo_len]; omega
    · exact Nat.zero_le _
  · exact Nat.zero_le _
set_option maxRecDepth 20000 in
set_option maxHeartbeats 4000000 in
set_option maxRecDepth 20000 in
set_option maxHeartbeats 4000000 in
theorem runs_law (v i cc : Int) (hcc : cc < 9223372036854775808) (l : List ByteArray) (p : Option Addr) (m c : Nat) (hn : m = l.length) (hm : m ≤ 9223372036854775807) (w : World) (hr : Reads w p m c 1 (stV l)) : Calls Try.prog 6 #[.slice p m c, .int .i64 v, .int .i64 i, .int .i64 cc] w fun e w' => e = .returned (.bool true) ∧ S w' [Old w no] := by
  have H0 := S.old w
  refine enter 104 Try.func6 rfl rfl rfl ?_
  refine g_weak [(0, .slice p m c), (1, .int .i64 v), (2, .int .i64 i), (3, .int .i64 cc)] ⟨rfl, rfl, rfl, rfl, trivial⟩ ?_
  refine g_seq ?_
  refine g_region ?_
  refine l_of (s_val (v := .bool false) (wt0 rfl) rfl rfl (x_assign rfl rfl) ?_)
  refine g_nil ?_
  refine g_then ?_
  refine g_seq ?_
  refine g_seq ?_
  refine g_region ?_
  refine l_of (s_val (v := .slice p m c) (wt0 rfl) rfl rfl (x_move rfl rfl) ?_)
  refine l_of (s_call (wt0 rfl) (x_call' rfl rfl cl9) (few_l l p m c hn (by omega) _ (H0.oldReads (k := 0) rfl hr)) ?_)
  rintro _ wq1 ⟨rfl, H2⟩
  replace H2 : S wq1 [Old w no] := H0.absorb (new := []) H2
  refine b_ret rfl rfl ?_
  refine l_of (s_val (v := .bool (!((fewB l)))) (wt0 rfl) rfl rfl (x_not (b := (fewB l)) rfl rfl) ?_)
  refine g_nil ?_
  refine g_then ?_
  rcases Bool.eq_false_or_eq_true ((fewB l)) with hb3 | hb3
  · skip
    have hm2 : m ≤ 1099511627776 := by have := few_len hb3; omega
    have hs1 := run_len (l := l) (v := v) (i := i) (c := cc)
    have hs2 := run_len2 (l := l) (v := v) (i := i) (c := cc)
    have hs3 := uncles_len (l := l) (v := v) (i := i)
    refine g_cond_f rfl (neg_of hb3) ?_
    refine g_skip ?_
    refine g_then ?_
    refine g_seq ?_
    refine g_region ?_
    refine l_of (s_val (v := .slice p m c) (wt0 rfl) rfl rfl (x_move rfl rfl) ?_)
    refine l_of (s_val (v := .int .i64 v) (wt0 rfl) rfl rfl (x_move rfl rfl) ?_)
    refine l_of (s_val (v := .int .i64 i) (wt0 rfl) rfl rfl (x_move rfl rfl) ?_)
    refine l_of (s_call (wt0 rfl) (x_call' rfl rfl cl26) (uncles_t l p m c hn v i hm2 _ (H2.oldReads (k := 0) rfl hr)) ?_)
    rintro _ wq6 ⟨p4, c5, rfl, H7⟩
    replace H7 : S wq6 [Rw 9 1 p4 (unclesS l v i).1.length c5 (stV (unclesS l v i).1), Old w no] := H2.absorb (new := [Rw 9 1 p4 (unclesS l v i).1.length c5 (stV (unclesS l v i).1)]) H7
    refine b_ret rfl rfl ?_
    refine l_of (s_val (v := .tuple #[.slice p4 (unclesS l v i).1.length c5, .int .i64 ((unclesS l v i).2)]) (wt0 rfl) rfl rfl (x_move rfl rfl) ?_)
    refine l_of (s_val (v := .slice p4 (unclesS l v i).1.length c5) (wt0 rfl) rfl rfl (x_extract rfl rfl rfl) ?_)
    refine l_of (s_val (v := .int .i64 ((unclesS l v i).2)) (wt0 rfl) rfl rfl (x_extract rfl rfl rfl) ?_)
    refine l_of (s_val (v := .slice p4 (unclesS l v i).1.length c5) (wt0 rfl) rfl rfl (x_assign rfl rfl) ?_)
    refine l_of (s_val (v := .int .i64 ((unclesS l v i).2)) (wt0 rfl) rfl rfl (x_assign rfl rfl) ?_)
    refine g_nil ?_
    refine g_then ?_
    refine g_seq ?_
    refine g_region ?_
    refine l_of (s_val (v := .slice p m c) (wt0 rfl) rfl rfl (x_move rfl rfl) ?_)
    refine l_of (s_val (v := .int .i64 v) (wt0 rfl) rfl rfl (x_move rfl rfl) ?_)
    refine l_of (s_val (v := .int .i64 i) (wt0 rfl) rfl rfl (x_move rfl rfl) ?_)
    refine l_of (s_call (wt0 rfl) (x_call' rfl rfl cl27) (uncles_r l p m c hn hm2 v i _ (H7.oldReads (k := 1) rfl hr)) ?_)
    rintro _ wq10 ⟨p8, c9, rfl, H11⟩
    replace H11 : S wq10 [Rw 9 1 p8 (unclesS l v i).1.length c9 (stV (unclesS l v i).1), Rw 9 1 p4 (unclesS l v i).1.length c5 (stV (unclesS l v i).1), Old w no] := H7.absorb (new := [Rw 9 1 p8 (unclesS l v i).1.length c9 (stV (unclesS l v i).1)]) H11
    refine b_ret rfl rfl ?_
    refine l_of (s_val (v := .tuple #[.slice p8 (unclesS l v i).1.length c9, .int .i64 ((unclesS l v i).2)]) (wt0 rfl) rfl rfl (x_move rfl rfl) ?_)
    refine l_of (s_val (v := .slice p8 (unclesS l v i).1.length c9) (wt0 rfl) rfl rfl (x_extract rfl rfl rfl) ?_)
    refine l_of (s_val (v := .int .i64 ((unclesS l v i).2)) (wt0 rfl) rfl rfl (x_extract rfl rfl rfl) ?_)
    refine l_of (s_val (v := .slice p8 (unclesS l v i).1.length c9) (wt0 rfl) rfl rfl (x_assign rfl rfl) ?_)
    refine l_of (s_val (v := .int .i64 ((unclesS l v i).2)) (wt0 rfl) rfl rfl (x_assign rfl rfl) ?_)
    refine g_nil ?_
    refine g_then ?_
    refine g_weak [(0, .slice p m c), (1, .int .i64 v), (2, .int .i64 i), (3, .int .i64 cc), (9, .slice p4 (unclesS l v i).1.length c5), (10, .int .i64 ((unclesS l v i).2)), (11, .slice p8 (unclesS l v i).1.length c9), (12, .int .i64 ((unclesS l v i).2))] ⟨rfl, rfl, rfl, rfl, rfl, rfl, rfl, rfl, trivial⟩ ?_
    refine g_seq ?_
    refine g_region ?_
    refine l_of (s_val (v := .slice p m c) (wt0 rfl) rfl rfl (x_move rfl rfl) ?_)
    refine l_of (s_val (v := .int .i64 v) (wt0 rfl) rfl rfl (x_move rfl rfl) ?_)
    refine l_of (s_val (v := .int .i64 i) (wt0 rfl) rfl rfl (x_move rfl rfl) ?_)
    refine l_of (s_val (v := .int .i64 cc) (wt0 rfl) rfl rfl (x_move rfl rfl) ?_)
    refine l_of (s_call (wt0 rfl) (x_call' rfl rfl cl28) (run_t l p m c hn hm2 v i cc hcc _ (H11.oldReads (k := 2) rfl hr)) ?_)
    rintro _ wq16 ⟨p12, c13, p14, c15, rfl, H17⟩
    replace H17 : S wq16 [Rw 9 1 p12 (runS l v i cc).1.length c13 (stV (runS l v i cc).1), Rw 9 1 p14 (runS l v i cc).2.1.length c15 (stV (runS l v i cc).2.1), Rw 9 1 p8 (unclesS l v i).1.length c9 (stV (unclesS l v i).1), Rw 9 1 p4 (unclesS l v i).1.length c5 (stV (unclesS l v i).1), Old w no] := H11.absorb (new := [Rw 9 1 p12 (runS l v i cc).1.length c13 (stV (runS l v i cc).1), Rw 9 1 p14 (runS l v i cc).2.1.length c15 (stV (runS l v i cc).2.1)]) H17
    refine b_ret rfl rfl ?_
    refine l_of (s_val (v := .tuple #[.slice p12 (runS l v i cc).1.length c13, .slice p14 (runS l v i cc).2.1.length c15, .int .i64 ((runS l v i cc).2.2)]) (wt0 rfl) rfl rfl (x_move rfl rfl) ?_)
    refine l_of (s_val (v := .slice p12 (runS l v i cc).1.length c13) (wt0 rfl) rfl rfl (x_extract rfl rfl rfl) ?_)
    refine l_of (s_val (v := .slice p14 (runS l v i cc).2.1.length c15) (wt0 rfl) rfl rfl (x_extract rfl rfl rfl) ?_)
    refine l_of (s_val (v := .int .i64 ((runS l v i cc).2.2)) (wt0 rfl) rfl rfl (x_extract rfl rfl rfl) ?_)
    refine l_of (s_val (v := .slice p12 (runS l v i cc).1.length c13) (wt0 rfl) rfl rfl (x_assign rfl rfl) ?_)
    refine l_of (s_val (v := .slice p14 (runS l v i cc).2.1.length c15) (wt0 rfl) rfl rfl (x_assign rfl rfl) ?_)
    refine l_of (s_val (v := .int .i64 ((runS l v i cc).2.2)) (wt0 rfl) rfl rfl (x_assign rfl rfl) ?_)
    refine g_nil ?_
    refine g_then ?_
    refine g_seq ?_
    refine g_region ?_
    refine l_of (s_val (v := .slice p m c) (wt0 rfl) rfl rfl (x_move rfl rfl) ?_)
    refine l_of (s_val (v := .int .i64 v) (wt0 rfl) rfl rfl (x_move rfl rfl) ?_)
    refine l_of (s_val (v := .int .i64 i) (wt0 rfl) rfl rfl (x_move rfl rfl) ?_)
    refine l_of (s_val (v := .int .i64 cc) (wt0 rfl) rfl rfl (x_move rfl rfl) ?_)
    refine l_of (s_call (wt0 rfl) (x_call' rfl rfl cl29) (run_r l p m c hn hm2 v i cc hcc _ (H17.oldReads (k := 4) rfl hr)) ?_)
    rintro _ wq24 ⟨p18, c19, X20, p21, c22, rfl, hX23, H25⟩
    replace H25 : S wq24 [X20, Rw 9 1 p21 (runS l v i cc).2.1.length c22 (stV (runS l v i cc).2.1), Rw 9 1 p12 (runS l v i cc).1.length c13 (stV (runS l v i cc).1), Rw 9 1 p14 (runS l v i cc).2.1.length c15 (stV (runS l v i cc).2.1), Rw 9 1 p8 (unclesS l v i).1.length c9 (stV (unclesS l v i).1), Rw 9 1 p4 (unclesS l v i).1.length c5 (stV (unclesS l v i).1), Old w no] := H17.absorb (new := [X20, Rw 9 1 p21 (runS l v i cc).2.1.length c22 (stV (runS l v i cc).2.1)]) H25
    refine b_ret rfl rfl ?_
    refine l_of (s_val (v := .tuple #[.slice p18 (runS l v i cc).1.length c19, .slice p21 (runS l v i cc).2.1.length c22, .int .i64 ((runS l v i cc).2.2)]) (wt0 rfl) rfl rfl (x_move rfl rfl) ?_)
    refine l_of (s_val (v := .slice p18 (runS l v i cc).1.length c19) (wt0 rfl) rfl rfl (x_extract rfl rfl rfl) ?_)
    refine l_of (s_val (v := .slice p21 (runS l v i cc).2.1.length c22) (wt0 rfl) rfl rfl (x_extract rfl rfl rfl) ?_)
    refine l_of (s_val (v := .int .i64 ((runS l v i cc).2.2)) (wt0 rfl) rfl rfl (x_extract rfl rfl rfl) ?_)
    refine l_of (s_val (v := .slice p18 (runS l v i cc).1.length c19) (wt0 rfl) rfl rfl (x_assign rfl rfl) ?_)
    refine l_of (s_val (v := .slice p21 (runS l v i cc).2.1.length c22) (wt0 rfl) rfl rfl (x_assign rfl rfl) ?_)
    refine l_of (s_val (v := .int .i64 ((runS l v i cc).2.2)) (wt0 rfl) rfl rfl (x_assign rfl rfl) ?_)
    refine g_nil ?_
    refine g_then ?_
    refine g_weak [(0, .slice p m c), (1, .int .i64 v), (2, .int .i64 i), (9, .slice p4 (unclesS l v i).1.length c5), (10, .int .i64 ((unclesS l v i).2)), (11, .slice p8 (unclesS l v i).1.length c9), (12, .int .i64 ((unclesS l v i).2)), (13, .slice p12 (runS l v i cc).1.length c13), (14, .slice p14 (runS l v i cc).2.1.length c15), (15, .int .i64 ((runS l v i cc).2.2)), (16, .slice p18 (runS l v i cc).1.length c19), (17, .slice p21 (runS l v i cc).2.1.length c22), (18, .int .i64 ((runS l v i cc).2.2))] ⟨rfl, rfl, rfl, rfl, rfl, rfl, rfl, rfl, rfl, rfl, rfl, rfl, rfl, trivial⟩ ?_
    refine g_seq ?_
    refine g_seq ?_
    refine g_region ?_
    refine l_of (s_val (v := .slice p4 (unclesS l v i).1.length c5) (wt0 rfl) rfl rfl (x_move rfl rfl) ?_)
    refine l_of (s_val (v := .slice p8 (unclesS l v i).1.length c9) (wt0 rfl) rfl rfl (x_move rfl rfl) ?_)
    refine l_of (s_call (wt0 rfl) (x_call' rfl rfl cl17) (texts_same (unclesS l v i).1 p4 p8 c5 c9 (by omega) _ (H25.rwReads (k := 5) rfl) (H25.rwReads (k := 4) rfl)) ?_)
    rintro _ wq26 ⟨rfl, H27⟩
    replace H27 : S wq26 [X20, Rw 9 1 p21 (runS l v i cc).2.1.length c22 (stV (runS l v i cc).2.1), Rw 9 1 p12 (runS l v i cc).1.length c13 (stV (runS l v i cc).1), Rw 9 1 p14 (runS l v i cc).2.1.length c15 (stV (runS l v i cc).2.1), Rw 9 1 p8 (unclesS l v i).1.length c9 (stV (unclesS l v i).1), Rw 9 1 p4 (unclesS l v i).1.length c5 (stV (unclesS l v i).1), Old w no] := H25.absorb (new := []) H27
    refine b_ret rfl rfl ?_
    refine l_of (s_val (v := .bool false) (wt0 rfl) rfl rfl (x_not (b := true) rfl rfl) ?_)
    refine l_of (s_val (v := .bool false) (wt0 rfl) rfl rfl (x_move rfl rfl) ?_)
    refine l_of (s_val (v := .int .i64 ((unclesS l v i).2)) (wt1 rfl rfl rfl rfl rfl) rfl rfl (x_move rfl rfl) ?_)
    refine l_of (s_val (v := .int .i64 ((unclesS l v i).2)) (wt1 rfl rfl rfl rfl rfl) rfl rfl (x_move rfl rfl) ?_)
    refine l_of (s_val (v := .bool (!decide (((unclesS l v i).2 : Int) = (unclesS l v i).2))) (wt1 rfl rfl rfl rfl rfl) rfl rfl (x_bin rfl rfl rfl b_neq) ?_)
    refine l_of (s_val (v := .bool (!decide (((unclesS l v i).2 : Int) = (unclesS l v i).2))) (wt0 rfl) rfl rfl (x_pick_f rfl rfl rfl rfl) ?_)
    refine l_of (s_val (v := .bool (!decide (((unclesS l v i).2 : Int) = (unclesS l v i).2))) (wt0 rfl) rfl rfl (x_move rfl rfl) ?_)
    refine l_of (s_val (v := .slice p12 (runS l v i cc).1.length c13) (wt1 rfl rfl rfl rfl (nf rfl)) rfl rfl (x_move rfl rfl) ?_)
    refine l_of (s_val (v := .slice p18 (runS l v i cc).1.length c19) (wt1 rfl rfl rfl rfl (nf rfl)) rfl rfl (x_move rfl rfl) ?_)
    refine l_of (s_call (wt1 rfl rfl rfl rfl (nf rfl)) (x_call' rfl rfl cl17) (texts_same (runS l v i cc).1 p12 p18 c13 c19 (by omega) _ (H27.rwReads (k := 2) rfl) (hX23 _ (H27.at (k := 0) rfl))) ?_)
    rintro _ wq28 ⟨rfl, H29⟩
    replace H29 : S wq28 [X20, Rw 9 1 p21 (runS l v i cc).2.1.length c22 (stV (runS l v i cc).2.1), Rw 9 1 p12 (runS l v i cc).1.length c13 (stV (runS l v i cc).1), Rw 9 1 p14 (runS l v i cc).2.1.length c15 (stV (runS l v i cc).2.1), Rw 9 1 p8 (unclesS l v i).1.length c9 (stV (unclesS l v i).1), Rw 9 1 p4 (unclesS l v i).1.length c5 (stV (unclesS l v i).1), Old w no] := H27.absorb (new := []) H29
    refine b_ret rfl rfl ?_
    refine l_of (s_val (v := .bool false) (wt1 rfl rfl rfl rfl (nf rfl)) rfl rfl (x_not (b := true) rfl rfl) ?_)
    refine l_of (s_val (v := .bool false) (wt0 rfl) rfl rfl (x_pick_f rfl rfl (nf rfl) rfl) ?_)
    refine l_of (s_val (v := .bool false) (wt0 rfl) rfl rfl (x_move rfl rfl) ?_)
    refine l_of (s_val (v := .slice p14 (runS l v i cc).2.1.length c15) (wt1 rfl rfl rfl rfl rfl) rfl rfl (x_move rfl rfl) ?_)
    refine l_of (s_val (v := .slice p21 (runS l v i cc).2.1.length c22) (wt1 rfl rfl rfl rfl rfl) rfl rfl (x_move rfl rfl) ?_)
    refine l_of (s_call (wt1 rfl rfl rfl rfl rfl) (x_call' rfl rfl cl17) (texts_same (runS l v i cc).2.1 p14 p21 c15 c22 (by omega) _ (H29.rwReads (k := 3) rfl) (H29.rwReads (k := 1) rfl)) ?_)
    rintro _ wq30 ⟨rfl, H31⟩
    replace H31 : S wq30 [X20, Rw 9 1 p21 (runS l v i cc).2.1.length c22 (stV (runS l v i cc).2.1), Rw 9 1 p12 (runS l v i cc).1.length c13 (stV (runS l v i cc).1), Rw 9 1 p14 (runS l v i cc).2.1.length c15 (stV (runS l v i cc).2.1), Rw 9 1 p8 (unclesS l v i).1.length c9 (stV (unclesS l v i).1), Rw 9 1 p4 (unclesS l v i).1.length c5 (stV (unclesS l v i).1), Old w no] := H29.absorb (new := []) H31
    refine b_ret rfl rfl ?_
    refine l_of (s_val (v := .bool false) (wt1 rfl rfl rfl rfl rfl) rfl rfl (x_not (b := true) rfl rfl) ?_)
    refine l_of (s_val (v := .bool false) (wt0 rfl) rfl rfl (x_pick_f rfl rfl rfl rfl) ?_)
    refine l_of (s_val (v := .bool false) (wt0 rfl) rfl rfl (x_move rfl rfl) ?_)
    refine l_of (s_val (v := .int .i64 ((runS l v i cc).2.2)) (wt1 rfl rfl rfl rfl rfl) rfl rfl (x_move rfl rfl) ?_)
    refine l_of (s_val (v := .int .i64 ((runS l v i cc).2.2)) (wt1 rfl rfl rfl rfl rfl) rfl rfl (x_move rfl rfl) ?_)
    refine l_of (s_val (v := .bool (!decide (((runS l v i cc).2.2 : Int) = (runS l v i cc).2.2))) (wt1 rfl rfl rfl rfl rfl) rfl rfl (x_bin rfl rfl rfl b_neq) ?_)
    refine l_of (s_val (v := .bool (!decide (((runS l v i cc).2.2 : Int) = (runS l v i cc).2.2))) (wt0 rfl) rfl rfl (x_pick_f rfl rfl rfl rfl) ?_)
    refine g_nil ?_
    refine g_then ?_
    refine g_weak [(0, .slice p m c), (1, .int .i64 v), (2, .int .i64 i), (13, .slice p12 (runS l v i cc).1.length c13), (14, .slice p14 (runS l v i cc).2.1.length c15), (15, .int .i64 ((runS l v i cc).2.2)), (82, .bool (!decide (((runS l v i cc).2.2 : Int) = (runS l v i cc).2.2)))] ⟨rfl, rfl, rfl, rfl, rfl, rfl, rfl, trivial⟩ ?_
    refine g_cond_f rfl (nf rfl) ?_
    refine g_skip ?_
    refine g_then ?_
    refine g_seq ?_
    refine g_seq ?_
    refine g_region ?_
    refine l_of (s_val (v := .int .i64 ((runS l v i cc).2.2)) (wt0 rfl) rfl rfl (x_move rfl rfl) ?_)
    refine l_of (s_val (v := .bool (decide (((runS l v i cc).2.2 : Int) = 0))) (wt0 rfl) rfl rfl (x_bin rfl rfl rfl b_eql) ?_)
    refine g_nil ?_
    refine g_then ?_
    by_cases hb32 : ((runS l v i cc).2.2 : Int) = 0
    · skip
      obtain ⟨hrc1, hrc2⟩ := run_check hb32
      refine g_cond_t rfl (decide_eq_true hb32) ?_
      refine g_seq ?_
      refine g_region ?_
      refine l_of (s_val (v := .slice p m c) (wt0 rfl) rfl rfl (x_move rfl rfl) ?_)
      refine l_of (s_call (wt0 rfl) (x_call' rfl rfl cl20) (root_s l p m c hn hm2 _ (H31.oldReads (k := 6) rfl hr)) ?_)
      rintro _ wq33 ⟨rfl, H34⟩
      replace H34 : S wq33 [X20, Rw 9 1 p21 (runS l v i cc).2.1.length c22 (stV (runS l v i cc).2.1), Rw 9 1 p12 (runS l v i cc).1.length c13 (stV (runS l v i cc).1), Rw 9 1 p14 (runS l v i cc).2.1.length c15 (stV (runS l v i cc).2.1), Rw 9 1 p8 (unclesS l v i).1.length c9 (stV (unclesS l v i).1), Rw 9 1 p4 (unclesS l v i).1.length c5 (stV (unclesS l v i).1), Old w no] := H31.absorb (new := []) H34
      refine b_ret rfl rfl ?_
      refine l_of (s_val (v := .tuple #[.string ((rootS l).1), .int .i64 ((rootS l).2)]) (wt0 rfl) rfl rfl (x_move rfl rfl) ?_)
      refine l_of (s_val (v := .string ((rootS l).1)) (wt0 rfl) rfl rfl (x_extract rfl rfl rfl) ?_)
      refine l_of (s_val (v := .int .i64 ((rootS l).2)) (wt0 rfl) rfl rfl (x_extract rfl rfl rfl) ?_)
      refine l_of (s_val (v := .string ((rootS l).1)) (wt0 rfl) rfl rfl (x_assign rfl rfl) ?_)
      refine l_of (s_val (v := .int .i64 ((rootS l).2)) (wt0 rfl) rfl rfl (x_assign rfl rfl) ?_)
      refine g_nil ?_
      refine g_then ?_
      refine g_seq ?_
      refine g_region ?_
      refine l_of (s_val (v := .int .i64 ((rootS l).2)) (wt0 rfl) rfl rfl (x_move rfl rfl) ?_)
      refine l_of (s_val (v := .bool (!decide (((rootS l).2 : Int) = 0))) (wt0 rfl) rfl rfl (x_bin rfl rfl rfl b_neq) ?_)
      refine l_of (s_val (v := .bool (!decide (((rootS l).2 : Int) = 0))) (wt0 rfl) rfl rfl (x_move rfl rfl) ?_)
      by_cases hb35 : ((rootS l).2 : Int) = 0
      · skip
        refine l_of (s_val (v := .string ((rootS l).1)) (wt1 rfl rfl rfl rfl (nf hb35)) rfl rfl (x_move rfl rfl) ?_)
        refine l_of (s_val (v := .slice p m c) (wt1 rfl rfl rfl rfl (nf hb35)) rfl rfl (x_move rfl rfl) ?_)
        refine l_of (s_val (v := .int .i64 ((m : Int))) (wt1 rfl rfl rfl rfl (nf hb35)) rfl rfl (x_lenl rfl rfl Try.underlying22) ?_)
        refine l_of (s_val (v := .int .i64 v) (wt1 rfl rfl rfl rfl (nf hb35)) rfl rfl (x_move rfl rfl) ?_)
        refine l_of (s_val (v := .int .i64 i) (wt1 rfl rfl rfl rfl (nf hb35)) rfl rfl (x_move rfl rfl) ?_)
        refine l_of (s_val (v := .slice p12 (runS l v i cc).1.length c13) (wt1 rfl rfl rfl rfl (nf hb35)) rfl rfl (x_move rfl rfl) ?_)
        refine l_of (s_val (v := .slice p14 (runS l v i cc).2.1.length c15) (wt1 rfl rfl rfl rfl (nf hb35)) rfl rfl (x_move rfl rfl) ?_)
        have hck36 := check_s (m : Int) (rootS l).1 v i (runS l v i cc).1 (runS l v i cc).2.1 p12 p14 c13 c15 (by omega) (by omega) wq33 (H34.rwReads (k := 2) rfl) (H34.rwReads (k := 3) rfl)
        rw [hn, decide_eq_true hrc2, ← hn] at hck36
        refine l_of (s_call (wt1 rfl rfl rfl rfl (nf hb35)) (x_call' rfl rfl cl24) (hck36) ?_)
        rintro _ wq37 ⟨rfl, H38⟩
        replace H38 : S wq37 [X20, Rw 9 1 p21 (runS l v i cc).2.1.length c22 (stV (runS l v i cc).2.1), Rw 9 1 p12 (runS l v i cc).1.length c13 (stV (runS l v i cc).1), Rw 9 1 p14 (runS l v i cc).2.1.length c15 (stV (runS l v i cc).2.1), Rw 9 1 p8 (unclesS l v i).1.length c9 (stV (unclesS l v i).1), Rw 9 1 p4 (unclesS l v i).1.length c5 (stV (unclesS l v i).1), Old w no] := H34.absorb (new := []) H38
        refine b_ret rfl rfl ?_
        refine l_of (s_val (v := .bool false) (wt1 rfl rfl rfl rfl (nf hb35)) rfl rfl (x_not (b := true) rfl rfl) ?_)
        refine l_of (s_val (v := .bool false) (wt0 rfl) rfl rfl (x_pick_f rfl rfl (nf hb35) rfl) ?_)
        refine g_nil ?_
        refine g_then ?_
        refine g_weak [(102, .bool false)] ⟨rfl, trivial⟩ ?_
        refine g_cond_f rfl rfl ?_
        refine g_skip ?_
        refine g_then ?_
        refine g_seq ?_
        refine g_region ?_
        refine l_of (s_call (wt0 rfl) (x_call' rfl rfl cl10) (awake_s _) ?_)
        rintro _ wq39 ⟨rfl, H40⟩
        replace H40 : S wq39 [X20, Rw 9 1 p21 (runS l v i cc).2.1.length c22 (stV (runS l v i cc).2.1), Rw 9 1 p12 (runS l v i cc).1.length c13 (stV (runS l v i cc).1), Rw 9 1 p14 (runS l v i cc).2.1.length c15 (stV (runS l v i cc).2.1), Rw 9 1 p8 (unclesS l v i).1.length c9 (stV (unclesS l v i).1), Rw 9 1 p4 (unclesS l v i).1.length c5 (stV (unclesS l v i).1), Old w no] := H38.absorb (new := []) H40
        refine b_ret rfl rfl ?_
        refine l_of (s_val (v := .bool true) (wt0 rfl) rfl rfl (x_assign rfl rfl) ?_)
        refine g_nil ?_
        refine g_then ?_
        refine g_ret ?_
        refine fin_ret [.tmp 8] [.bool true] rfl ⟨rfl, trivial⟩ ?_
        exact ⟨rfl, H40.mask [false, false, false, false, false, false, true]⟩
      · skip
        refine l_of (s_not (wn1 rfl rfl rfl rfl (nt hb35)) rfl rfl ?_)
        refine l_of (s_not (wn1 rfl rfl rfl rfl (nt hb35)) rfl rfl ?_)
        refine l_of (s_not (wn1 rfl rfl rfl rfl (nt hb35)) rfl rfl ?_)
        refine l_of (s_not (wn1 rfl rfl rfl rfl (nt hb35)) rfl rfl ?_)
        refine l_of (s_not (wn1 rfl rfl rfl rfl (nt hb35)) rfl rfl ?_)
        refine l_of (s_not (wn1 rfl rfl rfl rfl (nt hb35)) rfl rfl ?_)
        refine l_of (s_not (wn1 rfl rfl rfl rfl (nt hb35)) rfl rfl ?_)
        refine l_of (s_not (wn1 rfl rfl rfl rfl (nt hb35)) rfl rfl ?_)
        refine l_of (s_not (wn1 rfl rfl rfl rfl (nt hb35)) rfl rfl ?_)
        refine l_of (s_val (v := .bool true) (wt0 rfl) rfl rfl (x_pick_t rfl rfl (nt hb35) rfl) ?_)
        refine g_nil ?_
        refine g_then ?_
        refine g_weak [(102, .bool true)] ⟨rfl, trivial⟩ ?_
        refine g_cond_t rfl rfl ?_
        refine g_seq ?_
        refine g_region ?_
        refine l_of (s_val (v := .bool false) (wt0 rfl) rfl rfl (x_assign rfl rfl) ?_)
        refine g_nil ?_
        refine g_then ?_
        refine g_ret ?_
        refine g_then_ret ?_
        refine fin_ret [.tmp 8] [.bool false] rfl ⟨rfl, trivial⟩ ?_
        exact absurd hrc1 (by omega)
    · skip
      refine g_cond_f rfl (decide_eq_false hb32) ?_
      refine g_skip ?_
      refine g_then ?_
      refine g_seq ?_
      refine g_region ?_
      refine l_of (s_call (wt0 rfl) (x_call' rfl rfl cl10) (awake_s _) ?_)
      rintro _ wq41 ⟨rfl, H42⟩
      replace H42 : S wq41 [X20, Rw 9 1 p21 (runS l v i cc).2.1.length c22 (stV (runS l v i cc).2.1), Rw 9 1 p12 (runS l v i cc).1.length c13 (stV (runS l v i cc).1), Rw 9 1 p14 (runS l v i cc).2.1.length c15 (stV (runS l v i cc).2.1), Rw 9 1 p8 (unclesS l v i).1.length c9 (stV (unclesS l v i).1), Rw 9 1 p4 (unclesS l v i).1.length c5 (stV (unclesS l v i).1), Old w no] := H31.absorb (new := []) H42
      refine b_ret rfl rfl ?_
      refine l_of (s_val (v := .bool true) (wt0 rfl) rfl rfl (x_assign rfl rfl) ?_)
      refine g_nil ?_
      refine g_then ?_
      refine g_ret ?_
      refine fin_ret [.tmp 8] [.bool true] rfl ⟨rfl, trivial⟩ ?_
      exact ⟨rfl, H42.mask [false, false, false, false, false, false, true]⟩
  · skip
    refine g_cond_t rfl (neg_of hb3) ?_
    refine g_seq ?_
    refine g_region ?_
    refine l_of (s_call (wt0 rfl) (x_call' rfl rfl cl10) (awake_s _) ?_)
    rintro _ wq43 ⟨rfl, H44⟩
    replace H44 : S wq43 [Old w no] := H2.absorb (new := []) H44
    refine b_ret rfl rfl ?_
    refine l_of (s_val (v := .bool true) (wt0 rfl) rfl rfl (x_assign rfl rfl) ?_)
    refine g_nil ?_
    refine g_then ?_
    refine g_ret ?_
    refine g_then_ret ?_
    refine fin_ret [.tmp 8] [.bool true] rfl ⟨rfl, trivial⟩ ?_
    exact ⟨rfl, H44.mask [true]⟩
end Go.Proofs.Ytlajgickimgigaa
