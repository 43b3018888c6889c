import Derived.Test.YtlajgickimgigaaGreatUO
set_option linter.unusedSimpArgs false
set_option linter.unusedVariables false
namespace Go.Proofs.YtlajgickimgigaaGreat
open Go.RowKit

theorem cl43 : callable Tryz.prog 43 = true := by kernel_rfl
theorem pow_le_right {v : Nat} {h : Nat} {k : Nat} (hk : k ≤ h - v) (hv : v ≤ h) : v + k ≤ h := by omega
theorem run_len {l : List ByteArray} {v i c : Int} : (runS l v i c).1.length ≤ 4096 := by
  unfold runS
  split
  · split
    · rename_i h1 h2
      obtain ⟨a1, a2, a3⟩ := check_spec h1
      obtain ⟨_, r1, _, _, _, _, _, r7, _⟩ := right_s (tall_le12 a2) h2
      show (runN l _ _ _).length ≤ _
      rw [runN_len]; omega
    · exact Nat.zero_le _
  · exact Nat.zero_le _
theorem run_len2 {l : List ByteArray} {v i c : Int} : (runS l v i c).2.1.length ≤ 4096 := by
  unfold runS
  split
  · split
    · rename_i h1 h2
      obtain ⟨a1, a2, a3⟩ := check_spec h1
      have := tall_le12 a2
      show (uncTo l _ _ _).length ≤ _
      rw [uncTo_len]; omega
    · exact Nat.zero_le _
  · exact Nat.zero_le _
theorem run_reads {W : World} {rs : List (Ro ByteArray)} {l : List ByteArray} {q : Option Addr} {d V0 I0 C0 : Nat} (h1 : 1 ≤ l.length) (hn : l.length ≤ 1099511627776) (hv : V0 ≤ tallN l.length) (hi : I0 + C0 ≤ 2 ^ (tallN l.length - V0)) (h : (RowsI 9 1 encT rs).ok W) (hj : rs[V0]? = some ⟨q, d, upN V0 (rowT l.length 0 l)⟩) :
    Reads W (cutP q I0 d 1) C0 (d - I0) 1 (stV (runN l V0 I0 C0)) := by
  have hf := full_row hn hv
  have := (row_read h hj rfl).cut I0 (I0 + C0) (by omega) (by omega)
  rw [take_stV, Nat.add_sub_cancel_left, seg_cut (by omega), ← runN_seg h1 hn hv hi] at this
  exact this
theorem unc_run {l : List ByteArray} {V0 I0 C0 : Nat} (hc : checkE l = 0) (hr : rightB (tallN l.length) (V0 : Int) (I0 : Int) (C0 : Int) = true) :
    unclesS l ((V0 : Int) + powerV (C0 : Int)) ((I0 / C0 : Nat) : Int) = (uncTo l (V0 + tallN C0) (I0 / C0) (tallN l.length - (V0 + tallN C0)), 0) := by
  obtain ⟨h1, h2, h3⟩ := check_spec hc
  have ht := tall_le12 (n := l.length) h2
  obtain ⟨o0, r1, _, r3, r4, r5, r6, r7, r8⟩ := right_s ht hr
  obtain ⟨o1, o2, o3, o4⟩ := nodeOk_s o0
  simp only [Int.toNat_natCast] at r3 r5 r6 r8 o4
  have hpow : 2 ^ (tallN l.length - V0) = C0 * 2 ^ (tallN l.length - V0 - tallN C0) := by
    conv => lhs; rw [show tallN l.length - V0 = tallN C0 + (tallN l.length - V0 - tallN C0) from by omega, Nat.pow_add, r5]
  have hq : I0 / C0 < 2 ^ (tallN l.length - V0 - tallN C0) := Nat.div_lt_of_lt_mul (by rw [← hpow]; omega)
  have e : (V0 : Int) + powerV (C0 : Int) = ((V0 + tallN C0 : Nat) : Int) := by rw [r8]; omega
  unfold unclesS
  rw [if_pos hc, e, if_pos (nodeOk_t (by omega) (by omega) (Int.natCast_nonneg _) (by rw [Int.toNat_natCast, show tallN l.length - (V0 + tallN C0) = tallN l.length - V0 - tallN C0 from by omega]; exact Int.ofNat_lt.2 hq)), Int.toNat_natCast, Int.toNat_natCast]
theorem run_room {l : List ByteArray} {V0 I0 C0 : Nat} (ht : tallN l.length ≤ 12) (hr : rightB (tallN l.length) (V0 : Int) (I0 : Int) (C0 : Int) = true) : I0 + C0 ≤ 2 ^ (tallN l.length - V0) ∧ 2 ^ (tallN l.length - V0) ≤ 4096 ∧ V0 ≤ tallN l.length ∧ 1 ≤ C0 ∧ tallN C0 ≤ 12 ∧ V0 + tallN C0 ≤ tallN l.length ∧ I0 / C0 ≤ I0 := by
  obtain ⟨o0, r1, _, r3, r4, r5, r6, r7, r8⟩ := right_s ht hr
  obtain ⟨o1, o2, o3, o4⟩ := nodeOk_s o0
  simp only [Int.toNat_natCast] at r3 r5 r6 r8 o4
  have h12 : 2 ^ (tallN l.length - V0) ≤ 2 ^ 12 := Nat.pow_le_pow_right (by omega) (by omega)
  have hpow : 2 ^ (tallN l.length - V0) = C0 * 2 ^ (tallN l.length - V0 - tallN C0) := by
    conv => lhs; rw [show tallN l.length - V0 = tallN C0 + (tallN l.length - V0 - tallN C0) from by omega, Nat.pow_add, r5]
  have hq : I0 / C0 < 2 ^ (tallN l.length - V0 - tallN C0) := Nat.div_lt_of_lt_mul (by rw [← hpow]; omega)
  have hi2 : I0 = C0 * (I0 / C0) := by
    have h5 : ((I0 % C0 : Nat) : Int) = 0 := by rw [← r4]; exact Int.natCast_emod I0 C0
    have := Nat.div_add_mod I0 C0; omega
  refine ⟨?_, by omega, by omega, by omega, tall_le12 (by omega), by omega, Nat.div_le_self _ _⟩
  rw [hpow]
  calc I0 + C0 = C0 * (I0 / C0 + 1) := by rw [Nat.mul_add, Nat.mul_one, ← hi2]
    _ ≤ C0 * 2 ^ (tallN l.length - V0 - tallN C0) := Nat.mul_le_mul_left _ hq
theorem runS_ok {l : List ByteArray} {V0 I0 C0 : Nat} (hc : checkE l = 0) (hr : rightB (tallN l.length) (V0 : Int) (I0 : Int) (C0 : Int) = true) : runS l (V0 : Int) (I0 : Int) (C0 : Int) = (runN l V0 I0 C0, uncTo l (V0 + tallN C0) (I0 / C0) (tallN l.length - (V0 + tallN C0)), 0) := by
  unfold runS; rw [if_pos hc, if_pos hr]; simp only [Int.toNat_natCast]
set_option maxRecDepth 20000 in
set_option maxHeartbeats 4000000 in
set_option maxRecDepth 20000 in
set_option maxHeartbeats 4000000 in
theorem run_r (l : List ByteArray) (p : Option Addr) (n c : Nat) (hn : n = l.length) (hm : n ≤ 1099511627776) (v i cc : Int) (hcc : cc < 9223372036854775808) (w : World) (hr : Reads w p n c 1 (stV l)) : Calls Tryz.prog 13 #[.slice p n c, .int .i64 v, .int .i64 i, .int .i64 cc] w fun e w' => ∃ p1 c1 X p2 c2, e = .returned (.tuple #[.slice p1 (runS l v i cc).1.length c1, .slice p2 (runS l v i cc).2.1.length c2, .int .i64 (runS l v i cc).2.2]) ∧ (∀ W, X.ok W → Reads W p1 (runS l v i cc).1.length c1 1 (stV (runS l v i cc).1)) ∧ S w' ([X, Rw 9 1 p2 (runS l v i cc).2.1.length c2 (stV (runS l v i cc).2.1)] ++ [Old w no]) := by
  have H0 := S.old w
  refine enter 49 Tryz.func13 rfl rfl rfl ?_
  refine g_weak [(0, .slice p n c), (1, .int .i64 v), (2, .int .i64 i), (3, .int .i64 cc)] ⟨rfl, rfl, rfl, rfl, trivial⟩ ?_
  refine g_seq ?_
  refine g_region ?_
  refine l_of (s_val (v := .slice none 0 0) (wt0 rfl) rfl rfl (x_assign rfl rfl) ?_)
  refine l_of (s_val (v := .slice none 0 0) (wt0 rfl) rfl rfl (x_assign rfl rfl) ?_)
  refine l_of (s_val (v := .int .i64 0) (wt0 rfl) rfl rfl (x_assign rfl rfl) ?_)
  refine g_nil ?_
  refine g_then ?_
  refine g_seq ?_
  refine g_seq ?_
  refine g_region ?_
  refine l_of (s_val (v := .slice p n c) (wt0 rfl) rfl rfl (x_move rfl rfl) ?_)
  refine l_of (s_call (wt0 rfl) (x_call' rfl rfl cl41) (check_r l p n c hn hm _ (H0.oldReads (k := 0) rfl hr)) ?_)
  rintro _ wq1 ⟨rfl, H2⟩
  replace H2 : S wq1 [Old w no] := H0.absorb (new := []) H2
  refine b_ret rfl rfl ?_
  refine l_of (s_val (v := .int .i64 (checkE l)) (wt0 rfl) rfl rfl (x_assign rfl rfl) ?_)
  refine g_nil ?_
  refine g_then ?_
  refine g_seq ?_
  refine g_region ?_
  refine l_of (s_val (v := .int .i64 (checkE l)) (wt0 rfl) rfl rfl (x_move rfl rfl) ?_)
  refine l_of (s_val (v := .bool (!decide ((checkE l : Int) = 0))) (wt0 rfl) rfl rfl (x_bin rfl rfl rfl b_neq) ?_)
  refine g_nil ?_
  refine g_then ?_
  by_cases hb3 : (checkE l : Int) = 0
  · skip
    obtain ⟨hc1, hc2, hc3⟩ := check_spec hb3
    have ht12 := tall_le12 hc2
    refine g_cond_f rfl (nf hb3) ?_
    refine g_skip ?_
    refine g_then ?_
    refine g_seq ?_
    refine g_seq ?_
    refine g_region ?_
    refine l_of (s_val (v := .slice p n c) (wt0 rfl) rfl rfl (x_move rfl rfl) ?_)
    refine l_of (s_val (v := .int .i64 ((n : Int))) (wt0 rfl) rfl rfl (x_lenl rfl rfl Tryz.underlying22) ?_)
    refine l_of (s_call (wt0 rfl) (x_call' rfl rfl cl38) (tall_n' hn (by omega) _) ?_)
    rintro _ wq4 ⟨rfl, H5⟩
    replace H5 : S wq4 [Old w no] := H2.absorb (new := []) H5
    refine b_ret rfl rfl ?_
    refine l_of (s_val (v := .int .i64 v) (wt0 rfl) rfl rfl (x_move rfl rfl) ?_)
    refine l_of (s_val (v := .int .i64 i) (wt0 rfl) rfl rfl (x_move rfl rfl) ?_)
    refine l_of (s_val (v := .int .i64 cc) (wt0 rfl) rfl rfl (x_move rfl rfl) ?_)
    refine l_of (s_call (wt0 rfl) (x_call' rfl rfl cl42) (right_r (tallN l.length) v i cc (by omega) _) ?_)
    rintro _ wq6 ⟨rfl, H7⟩
    replace H7 : S wq6 [Old w no] := H5.absorb (new := []) H7
    refine b_ret rfl rfl ?_
    refine l_of (s_val (v := .bool (!((rightB (tallN l.length) v i cc)))) (wt0 rfl) rfl rfl (x_not (b := (rightB (tallN l.length) v i cc)) rfl rfl) ?_)
    refine g_nil ?_
    refine g_then ?_
    refine g_weak [(0, .slice p n c), (1, .int .i64 v), (2, .int .i64 i), (3, .int .i64 cc), (24, .bool (!((rightB (tallN l.length) v i cc))))] ⟨rfl, rfl, rfl, rfl, rfl, trivial⟩ ?_
    rcases Bool.eq_false_or_eq_true ((rightB (tallN l.length) v i cc)) with hb8 | hb8
    · skip
      obtain ⟨V0, rfl⟩ : ∃ V0 : Nat, v = (V0 : Int) := ⟨v.toNat, by have := (nodeOk_s (right_s ht12 hb8).1).1; omega⟩
      obtain ⟨I0, rfl⟩ : ∃ I0 : Nat, i = (I0 : Int) := ⟨i.toNat, by have := (nodeOk_s (right_s ht12 hb8).1).2.2.1; omega⟩
      obtain ⟨C0, rfl⟩ : ∃ C0 : Nat, cc = (C0 : Int) := ⟨cc.toNat, by have := (right_s ht12 hb8).2.1; omega⟩
      obtain ⟨q1, q2, q3, q4, q5, q6, q7⟩ := run_room ht12 hb8
      refine g_cond_f rfl (neg_of hb8) ?_
      refine g_skip ?_
      refine g_then ?_
      refine g_seq ?_
      refine g_region ?_
      refine l_of (s_val (v := .slice p n c) (wt0 rfl) rfl rfl (x_move rfl rfl) ?_)
      refine l_of (s_call (wt0 rfl) (x_call' rfl rfl cl35) (full_r l p n c hn (by omega) (by omega) hc3 _ (H7.oldReads (k := 0) rfl hr)) ?_)
      rintro _ wq13 ⟨P9, C10, rs11, rfl, hrs12, H14⟩
      replace H14 : S wq13 [Rw 22 1 P9 rs11.length C10 (rosV rs11), RowsI 9 1 encT rs11, Old w no] := H7.absorb (new := [Rw 22 1 P9 rs11.length C10 (rosV rs11), RowsI 9 1 encT rs11]) H14
      refine b_ret rfl rfl ?_
      refine l_of (s_val (v := .int .i64 ((V0 : Int))) (wt0 rfl) rfl rfl (x_move rfl rfl) ?_)
      obtain ⟨rp15, rc16, hj17⟩ := full_at hrs12 (j := V0) (by omega)
      have hrl18 := full_row (l := l) (k := V0) (by omega) (by omega)
      have hrl18p := Nat.two_pow_pos ((tallN l.length) - V0)
      have hPs19 : ∃ a, P9 = some a := ((H14.rwReads (k := 0) rfl).2.2 (by have := full_len hrs12; omega)).imp fun _ h => h.1
      have hQs20 : ∃ a, rp15 = some a := ((row_read (H14.at (k := 1) rfl) hj17 rfl).2.2 (by omega)).imp fun _ h => h.1
      have hrl18n := full_len hrs12
      refine l_of (s_val (v := .pointer ((P9).map fun q => q.add (V0 * 1))) (wt0 rfl) rfl rfl (x_idxR V0 (H14.rwReads (k := 0) rfl) rfl rfl rfl Tryz.underlying76 sz22 (by omega)) ?_)
      refine l_of (s_val (v := .slice rp15 (upN V0 (rowT l.length 0 l)).length rc16) (wt0 rfl) rfl rfl (x_loadR1 V0 (H14.rwReads (k := 0) rfl) (by omega) rfl rfl Tryz.underlying22 rfl (rosV_at hj17)) ?_)
      refine l_of (s_val (v := .int .i64 ((I0 : Int))) (wt0 rfl) rfl rfl (x_move rfl rfl) ?_)
      refine l_of (s_val (v := .int .i64 ((I0 : Int))) (wt0 rfl) rfl rfl (x_move rfl rfl) ?_)
      refine l_of (s_val (v := .int .i64 ((C0 : Int))) (wt0 rfl) rfl rfl (x_move rfl rfl) ?_)
      refine l_of (s_val (v := .int .i64 (((I0 + C0 : Nat) : Int))) (wt0 rfl) rfl rfl (x_bin rfl rfl rfl (b_addN (a := I0) (b := C0) (by omega))) ?_)
      refine l_of (s_val (v := .slice (cutP rp15 I0 rc16 1) C0 (rc16 - I0)) (wt0 rfl) rfl rfl (ex_cast (x_sliceLH I0 (I0 + C0) rfl rfl rfl rfl Tryz.underlying22 sz9 (by have := (row_read (H14.at (k := 1) rfl) hj17 rfl).2.1; omega)) (by rw [Nat.add_sub_cancel_left])) ?_)
      refine l_of (s_val (v := .slice (cutP rp15 I0 rc16 1) C0 (rc16 - I0)) (wt0 rfl) rfl rfl (x_assign rfl rfl) ?_)
      refine g_nil ?_
      refine g_then ?_
      refine g_seq ?_
      refine g_any [] (fun _ => True) [] (by kernel_rfl) H14 (fun wq21 H22 => ?_)
      refine a_pure (v := .slice p n c) 0 rfl (wt0 rfl) rfl rfl rfl (by kernel_rfl) (by kernel_rfl) (by kernel_rfl) (.inr fun _ => trivial) (fun wx => x_move rfl rfl) ?_
      refine a_pure (v := .int .i64 ((V0 : Int))) 1 rfl (wt0 rfl) rfl rfl rfl (by kernel_rfl) (by kernel_rfl) (by kernel_rfl) (.inr fun _ => trivial) (fun wx => x_move rfl rfl) ?_
      refine a_pure (v := .int .i64 ((C0 : Int))) 2 rfl (wt0 rfl) rfl rfl rfl (by kernel_rfl) (by kernel_rfl) (by kernel_rfl) (.inr fun _ => trivial) (fun wx => x_move rfl rfl) ?_
      refine a_pure (v := .int .i64 ((I0 : Int))) 5 rfl (wt0 rfl) rfl rfl rfl (by kernel_rfl) (by kernel_rfl) (by kernel_rfl) (.inr fun _ => trivial) (fun wx => x_move rfl rfl) ?_
      refine a_pure (v := .int .i64 ((C0 : Int))) 6 rfl (wt0 rfl) rfl rfl rfl (by kernel_rfl) (by kernel_rfl) (by kernel_rfl) (.inr fun _ => trivial) (fun wx => x_move rfl rfl) ?_
      refine a_pure (v := .int .i64 (((I0 / C0 : Nat) : Int))) 7 rfl (wt0 rfl) rfl rfl rfl (by kernel_rfl) (by kernel_rfl) (by kernel_rfl) (.inr fun _ => trivial) (fun wx => x_bin rfl rfl rfl (b_quoN (a := I0) (b := C0) (by omega))) ?_
      refine a_one (i := 3) (by kernel_rfl) rfl ?_
      refine s_call (wt0 rfl) (x_call' rfl rfl cl44) (power_r _ _) ?_
      rintro _ wq23 ⟨rfl, H24⟩
      replace H24 : S wq23 [Rw 22 1 P9 rs11.length C10 (rosV rs11), RowsI 9 1 encT rs11, Old w no] := H22.absorb (new := []) H24
      refine b_ret rfl rfl ?_
      refine a_k trivial ?_
      refine a_pure (v := .int .i64 ((V0 : Int) + powerV (C0 : Int))) 4 rfl (wt0 rfl) rfl rfl rfl (by kernel_rfl) (by kernel_rfl) (by kernel_rfl) (.inr fun _ => trivial) (fun wx => x_bin rfl rfl rfl (b_add (w64 (by have := (right_s ht12 hb8).2.2.2.2.2.2.2.2; simp only [Int.toNat_natCast] at this; omega)))) ?_
      refine a_one (i := 8) (by kernel_rfl) rfl ?_
      have hun27 := uncles_r l p n c hn hm ((V0 : Int) + powerV (C0 : Int)) ((I0 / C0 : Nat) : Int) wq23 (H24.oldReads (k := 2) rfl hr)
      rw [unc_run (by omega) hb8] at hun27
      refine s_call (wt0 rfl) (x_call' rfl rfl cl43) (hun27) ?_
      rintro _ wq28 ⟨p25, c26, rfl, H29⟩
      replace H29 : S wq28 [Rw 9 1 p25 (uncTo l (V0 + tallN C0) (I0 / C0) ((tallN l.length) - (V0 + tallN C0))).length c26 (stV (uncTo l (V0 + tallN C0) (I0 / C0) ((tallN l.length) - (V0 + tallN C0)))), Rw 22 1 P9 rs11.length C10 (rosV rs11), RowsI 9 1 encT rs11, Old w no] := H24.absorb (new := [Rw 9 1 p25 (uncTo l (V0 + tallN C0) (I0 / C0) ((tallN l.length) - (V0 + tallN C0))).length c26 (stV (uncTo l (V0 + tallN C0) (I0 / C0) ((tallN l.length) - (V0 + tallN C0))))]) H29
      refine b_ret rfl rfl ?_
      refine a_k trivial ?_
      refine a_pure (v := .tuple #[.slice p25 (uncTo l (V0 + tallN C0) (I0 / C0) ((tallN l.length) - (V0 + tallN C0))).length c26, .int .i64 0]) 9 rfl (wt0 rfl) rfl rfl rfl (by kernel_rfl) (by kernel_rfl) (by kernel_rfl) (.inr fun _ => trivial) (fun wx => x_move rfl rfl) ?_
      refine a_pure (v := .slice p25 (uncTo l (V0 + tallN C0) (I0 / C0) ((tallN l.length) - (V0 + tallN C0))).length c26) 10 rfl (wt0 rfl) rfl rfl rfl (by kernel_rfl) (by kernel_rfl) (by kernel_rfl) (.inr fun _ => trivial) (fun wx => x_extract rfl rfl rfl) ?_
      refine a_pure (v := .int .i64 0) 11 rfl (wt0 rfl) rfl rfl rfl (by kernel_rfl) (by kernel_rfl) (by kernel_rfl) (.inr fun _ => trivial) (fun wx => x_extract rfl rfl rfl) ?_
      refine a_pure (v := .slice p25 (uncTo l (V0 + tallN C0) (I0 / C0) ((tallN l.length) - (V0 + tallN C0))).length c26) 12 rfl (wt0 rfl) rfl rfl rfl (by kernel_rfl) (by kernel_rfl) (by kernel_rfl) (.inr fun _ => trivial) (fun wx => x_assign rfl rfl) ?_
      refine a_done (by kernel_rfl) ?_
      refine g_then ?_
      refine g_weak [(8, .slice (cutP rp15 I0 rc16 1) C0 (rc16 - I0)), (9, .slice p25 (uncTo l (V0 + tallN C0) (I0 / C0) ((tallN l.length) - (V0 + tallN C0))).length c26)] ⟨rfl, rfl, trivial⟩ ?_
      refine g_seq ?_
      refine g_region ?_
      refine l_of (s_val (v := .slice (cutP rp15 I0 rc16 1) C0 (rc16 - I0)) (wt0 rfl) rfl rfl (x_move rfl rfl) ?_)
      refine l_of (s_val (v := .slice p25 (uncTo l (V0 + tallN C0) (I0 / C0) ((tallN l.length) - (V0 + tallN C0))).length c26) (wt0 rfl) rfl rfl (x_move rfl rfl) ?_)
      refine l_of (s_val (v := .slice (cutP rp15 I0 rc16 1) C0 (rc16 - I0)) (wt0 rfl) rfl rfl (x_assign rfl rfl) ?_)
      refine l_of (s_val (v := .slice p25 (uncTo l (V0 + tallN C0) (I0 / C0) ((tallN l.length) - (V0 + tallN C0))).length c26) (wt0 rfl) rfl rfl (x_assign rfl rfl) ?_)
      refine l_of (s_val (v := .int .i64 0) (wt0 rfl) rfl rfl (x_assign rfl rfl) ?_)
      refine g_nil ?_
      refine g_then ?_
      refine g_ret ?_
      refine fin_ret [.tmp 8, .tmp 9, .tmp 10] [.slice (cutP rp15 I0 rc16 1) C0 (rc16 - I0), .slice p25 (uncTo l (V0 + tallN C0) (I0 / C0) ((tallN l.length) - (V0 + tallN C0))).length c26, .int .i64 0] rfl ⟨rfl, rfl, rfl, trivial⟩ ?_
      rw [runS_ok (by omega) hb8]
      simp only [runN_len]
      exact ⟨_, _, RowsI 9 1 encT rs11, _, _, rfl, fun W h => run_reads (by omega) (by omega) (by omega) (by omega) h hj17, H29.takes [2, 0, 3] (by decide)⟩
    · skip
      refine g_cond_t rfl (neg_of hb8) ?_
      refine g_seq ?_
      refine g_region ?_
      refine l_of (s_val (v := .slice none 0 0) (wt0 rfl) rfl rfl (x_assign rfl rfl) ?_)
      refine l_of (s_val (v := .slice none 0 0) (wt0 rfl) rfl rfl (x_assign rfl rfl) ?_)
      refine l_of (s_val (v := .int .i64 7) (wt0 rfl) rfl rfl (x_assign rfl rfl) ?_)
      refine g_nil ?_
      refine g_then ?_
      refine g_ret ?_
      refine g_then_ret ?_
      refine fin_ret [.tmp 8, .tmp 9, .tmp 10] [.slice none 0 0, .slice none 0 0, .int .i64 7] rfl ⟨rfl, rfl, rfl, trivial⟩ ?_
      have hd : runS l v i cc = ([], [], 7) := by unfold runS; rw [if_pos (by omega), if_neg (by rw [hb8]; exact Bool.false_ne_true)]
      rw [hd]
      exact ⟨none, 0, Big [], none, 0, rfl, fun W _ => ⟨rfl, Nat.le_refl _, fun h => absurd h (Nat.lt_irrefl 0)⟩, ((H7.takes [0] (by decide)).nilRw 9 1).nilBig⟩
  · skip
    refine g_cond_t rfl (nt hb3) ?_
    refine g_seq ?_
    refine g_region ?_
    refine l_of (s_val (v := .int .i64 (checkE l)) (wt0 rfl) rfl rfl (x_move rfl rfl) ?_)
    refine l_of (s_val (v := .slice none 0 0) (wt0 rfl) rfl rfl (x_assign rfl rfl) ?_)
    refine l_of (s_val (v := .slice none 0 0) (wt0 rfl) rfl rfl (x_assign rfl rfl) ?_)
    refine l_of (s_val (v := .int .i64 (checkE l)) (wt0 rfl) rfl rfl (x_assign rfl rfl) ?_)
    refine g_nil ?_
    refine g_then ?_
    refine g_ret ?_
    refine g_then_ret ?_
    refine fin_ret [.tmp 8, .tmp 9, .tmp 10] [.slice none 0 0, .slice none 0 0, .int .i64 (checkE l)] rfl ⟨rfl, rfl, rfl, trivial⟩ ?_
    have hd : runS l v i cc = ([], [], checkE l) := by unfold runS; rw [if_neg (by omega)]
    rw [hd]
    exact ⟨none, 0, Big [], none, 0, rfl, fun W _ => ⟨rfl, Nat.le_refl _, fun h => absurd h (Nat.lt_irrefl 0)⟩, ((H2.takes [0] (by decide)).nilRw 9 1).nilBig⟩
end Go.Proofs.YtlajgickimgigaaGreat
