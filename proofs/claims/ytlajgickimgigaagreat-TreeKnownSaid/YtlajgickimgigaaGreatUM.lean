import Derived.Test.YtlajgickimgigaaGreatUL
set_option linter.unusedSimpArgs false
set_option linter.unusedVariables false
namespace Go.Proofs.YtlajgickimgigaaGreat
open Go.RowKit

theorem cl50 : callable Tryz.prog 50 = true := by kernel_rfl
theorem cl42 : callable Tryz.prog 42 = true := by kernel_rfl
theorem cl53 : callable Tryz.prog 53 = true := by kernel_rfl
theorem chk_f {n : Int} {root : ByteArray} {v i : Int} {l u : List ByteArray} (h : ¬ root.size = 32 ∨ digsB l = false ∨ digsB u = false ∨ n < 1 ∨ 4096 < n ∨ rightB (tallN n.toNat) v i (l.length : Int) = false ∨ ¬ (u.length : Int) = ((tallN n.toNat : Nat) : Int) - v - ((tallN l.length : Nat) : Int)) : ¬ chkE n root v i l u = 0 := by
  unfold chkE
  split
  · rename_i h1
    obtain ⟨a, b, c⟩ := h1
    split
    · unfold provE
      split
      · split
        · rename_i h3 h4
          rcases h with h | h | h | h | h | h | h
          · omega
          · rw [a] at h; cases h
          · rw [b] at h; cases h
          · omega
          · omega
          · rw [h3] at h; cases h
          · exact absurd h4 h
        · omega
      · omega
    · omega
  · omega
theorem chk_t {n : Int} {root : ByteArray} {v i : Int} {l u : List ByteArray} (h1 : root.size = 32) (h2 : digsB l = true) (h3 : digsB u = true) (h4 : 1 ≤ n) (h5 : n ≤ 4096) (h6 : rightB (tallN n.toNat) v i (l.length : Int) = true) (h7 : (u.length : Int) = ((tallN n.toNat : Nat) : Int) - v - ((tallN l.length : Nat) : Int)) :
    decide (chkE n root v i l u = 0) = decide (madeS i.toNat l u = root) := by
  rw [decide_eq_decide]
  unfold chkE
  rw [if_pos ⟨h2, h3, h1⟩, if_pos ⟨h4, h5⟩]
  unfold provE
  rw [if_pos h6, if_pos h7]
  split
  · rename_i h; exact ⟨fun _ => h, fun _ => rfl⟩
  · rename_i h; exact ⟨fun e => by omega, fun e => absurd e h⟩
theorem way_i (i : Int) (l u : List ByteArray) (p q : Option Addr) (c d : Nat) (r5 : 2 ^ tallN l.length = l.length) (hmm : l.length ≤ 4096) (h0 : 0 ≤ i) (hi : i ≤ 1099511627776) (hdl : digsB l = true) (hdu : digsB u = true) (hmu : u.length ≤ 1099511627776) (w : World) (hr : Reads w p l.length c 1 (stV l)) (hu : Reads w q u.length d 1 (stV u)) :
    Calls Tryz.prog 53 #[.int .i64 i, .slice p l.length c, .slice q u.length d] w fun e w' => ∃ p' c', e = .returned (.slice p' (u.length + 1) c') ∧ S w' ([Rw 9 1 p' (u.length + 1) c' (stV (wayTo (i.toNat / 2 ^ tallN l.length) ((upN (tallN l.length) l).getD 0 ⟨#[]⟩) u (u.length + 1)))] ++ [Old w no]) := by
  have e : i = (i.toNat : Int) := by omega
  have := way_r i.toNat l u p q c d r5 hmm (by omega) hdl hdu hmu w hr hu
  rw [← e] at this; exact this
set_option maxRecDepth 20000 in
set_option maxHeartbeats 4000000 in
set_option maxRecDepth 20000 in
set_option maxHeartbeats 4000000 in
theorem check_r2 (n : Int) (root : ByteArray) (v i : Int) (l u : List ByteArray) (p q : Option Addr) (c d : Nat) (hm : l.length ≤ 1099511627776) (hmu : u.length ≤ 1099511627776) (w : World) (hr : Reads w p l.length c 1 (stV l)) (hu : Reads w q u.length d 1 (stV u)) : Calls Tryz.prog 50 #[.string root, .int .i64 n, .int .i64 v, .int .i64 i, .slice p l.length c, .slice q u.length d] w fun e w' => e = .returned (.bool (decide (chkE n root v i l u = 0))) ∧ S w' [Old w no] := by
  have H0 := S.old w
  refine enter 69 Tryz.func50 rfl rfl rfl ?_
  refine g_weak [(0, .string root), (1, .int .i64 n), (2, .int .i64 v), (3, .int .i64 i), (4, .slice p l.length c), (5, .slice q u.length d)] ⟨rfl, rfl, rfl, rfl, rfl, rfl, trivial⟩ ?_
  refine g_seq ?_
  refine g_region ?_
  refine l_of (s_val (v := .bool false) (wt0 rfl) rfl rfl (x_assign rfl rfl) ?_)
  refine g_nil ?_
  refine g_then ?_
  refine g_seq ?_
  refine g_seq ?_
  refine g_region ?_
  refine l_of (s_val (v := .string root) (wt0 rfl) rfl rfl (x_move rfl rfl) ?_)
  refine l_of (s_val (v := .int .i64 ((root.size : Int))) (wt0 rfl) rfl rfl (x_lens rfl rfl Tryz.underlying9) ?_)
  refine l_of (s_val (v := .bool (!decide (((root.size : Int) : Int) = 32))) (wt0 rfl) rfl rfl (x_bin rfl rfl rfl b_neq) ?_)
  refine l_of (s_val (v := .bool (!decide (((root.size : Int) : Int) = 32))) (wt0 rfl) rfl rfl (x_move rfl rfl) ?_)
  by_cases hb1 : ((root.size : Int) : Int) = 32
  · skip
    refine l_of (s_val (v := .slice p l.length c) (wt1 rfl rfl rfl rfl (nf hb1)) rfl rfl (x_move rfl rfl) ?_)
    refine l_of (s_call (wt1 rfl rfl rfl rfl (nf hb1)) (x_call' rfl rfl cl49) (digests_r l p l.length c rfl hm _ (H0.oldReads (k := 0) rfl hr)) ?_)
    rintro _ wq2 ⟨rfl, H3⟩
    replace H3 : S wq2 [Old w no] := H0.absorb (new := []) H3
    refine b_ret rfl rfl ?_
    refine l_of (s_val (v := .bool (!((digsB l)))) (wt1 rfl rfl rfl rfl (nf hb1)) rfl rfl (x_not (b := (digsB l)) rfl rfl) ?_)
    refine l_of (s_val (v := .bool (!((digsB l)))) (wt0 rfl) rfl rfl (x_pick_f rfl rfl (nf hb1) rfl) ?_)
    refine l_of (s_val (v := .bool (!((digsB l)))) (wt0 rfl) rfl rfl (x_move rfl rfl) ?_)
    rcases Bool.eq_false_or_eq_true ((digsB l)) with hb4 | hb4
    · skip
      refine l_of (s_val (v := .slice q u.length d) (wt1 rfl rfl rfl rfl (neg_of hb4)) rfl rfl (x_move rfl rfl) ?_)
      refine l_of (s_call (wt1 rfl rfl rfl rfl (neg_of hb4)) (x_call' rfl rfl cl49) (digests_r u q u.length d rfl hmu _ (H3.oldReads (k := 0) rfl hu)) ?_)
      rintro _ wq5 ⟨rfl, H6⟩
      replace H6 : S wq5 [Old w no] := H3.absorb (new := []) H6
      refine b_ret rfl rfl ?_
      refine l_of (s_val (v := .bool (!((digsB u)))) (wt1 rfl rfl rfl rfl (neg_of hb4)) rfl rfl (x_not (b := (digsB u)) rfl rfl) ?_)
      refine l_of (s_val (v := .bool (!((digsB u)))) (wt0 rfl) rfl rfl (x_pick_f rfl rfl (neg_of hb4) rfl) ?_)
      refine l_of (s_val (v := .bool (!((digsB u)))) (wt0 rfl) rfl rfl (x_move rfl rfl) ?_)
      rcases Bool.eq_false_or_eq_true ((digsB u)) with hb7 | hb7
      · skip
        refine l_of (s_val (v := .int .i64 n) (wt1 rfl rfl rfl rfl (neg_of hb7)) rfl rfl (x_move rfl rfl) ?_)
        refine l_of (s_val (v := .bool (decide ((n : Int) < 1))) (wt1 rfl rfl rfl rfl (neg_of hb7)) rfl rfl (x_bin rfl rfl rfl b_lss) ?_)
        refine l_of (s_val (v := .bool (decide ((n : Int) < 1))) (wt0 rfl) rfl rfl (x_pick_f rfl rfl (neg_of hb7) rfl) ?_)
        refine l_of (s_val (v := .bool (decide ((n : Int) < 1))) (wt0 rfl) rfl rfl (x_move rfl rfl) ?_)
        by_cases hb8 : (n : Int) < 1
        · skip
          refine l_of (s_not (wn1 rfl rfl rfl rfl (decide_eq_true hb8)) rfl rfl ?_)
          refine l_of (s_not (wn1 rfl rfl rfl rfl (decide_eq_true hb8)) rfl rfl ?_)
          refine l_of (s_val (v := .bool true) (wt0 rfl) rfl rfl (x_pick_t rfl rfl (decide_eq_true hb8) rfl) ?_)
          refine g_nil ?_
          refine g_then ?_
          refine g_weak [(0, .string root), (1, .int .i64 n), (2, .int .i64 v), (3, .int .i64 i), (4, .slice p l.length c), (5, .slice q u.length d), (35, .bool true)] ⟨rfl, rfl, rfl, rfl, rfl, rfl, rfl, trivial⟩ ?_
          refine g_cond_t rfl rfl ?_
          refine g_seq ?_
          refine g_region ?_
          refine l_of (s_val (v := .bool false) (wt0 rfl) rfl rfl (x_assign rfl rfl) ?_)
          refine g_nil ?_
          refine g_then ?_
          refine g_ret ?_
          refine g_then_ret ?_
          refine fin_ret [.tmp 12] [.bool false] rfl ⟨rfl, trivial⟩ ?_
          exact ⟨by rw [decide_eq_false (chk_f (.inr (.inr (.inr (.inl (by omega))))))]; rfl, H6.mask [true]⟩
        · skip
          refine l_of (s_val (v := .int .i64 n) (wt1 rfl rfl rfl rfl (decide_eq_false hb8)) rfl rfl (x_move rfl rfl) ?_)
          refine l_of (s_val (v := .bool (decide ((4096 : Int) < n))) (wt1 rfl rfl rfl rfl (decide_eq_false hb8)) rfl rfl (x_bin rfl rfl rfl b_gtr) ?_)
          refine l_of (s_val (v := .bool (decide ((4096 : Int) < n))) (wt0 rfl) rfl rfl (x_pick_f rfl rfl (decide_eq_false hb8) rfl) ?_)
          refine g_nil ?_
          refine g_then ?_
          refine g_weak [(0, .string root), (1, .int .i64 n), (2, .int .i64 v), (3, .int .i64 i), (4, .slice p l.length c), (5, .slice q u.length d), (35, .bool (decide ((4096 : Int) < n)))] ⟨rfl, rfl, rfl, rfl, rfl, rfl, rfl, trivial⟩ ?_
          by_cases hb9 : (4096 : Int) < n
          · skip
            refine g_cond_t rfl (decide_eq_true hb9) ?_
            refine g_seq ?_
            refine g_region ?_
            refine l_of (s_val (v := .bool false) (wt0 rfl) rfl rfl (x_assign rfl rfl) ?_)
            refine g_nil ?_
            refine g_then ?_
            refine g_ret ?_
            refine g_then_ret ?_
            refine fin_ret [.tmp 12] [.bool false] rfl ⟨rfl, trivial⟩ ?_
            exact ⟨by rw [decide_eq_false (chk_f (.inr (.inr (.inr (.inr (.inl (by omega)))))))]; rfl, H6.mask [true]⟩
          · skip
            refine g_cond_f rfl (decide_eq_false hb9) ?_
            refine g_skip ?_
            refine g_then ?_
            refine g_seq ?_
            refine g_region ?_
            refine l_of (s_val (v := .int .i64 n) (wt0 rfl) rfl rfl (x_move rfl rfl) ?_)
            refine l_of (s_call (wt0 rfl) (x_call' rfl rfl cl38) (tall_i _ (by omega) _) ?_)
            rintro _ wq10 ⟨rfl, H11⟩
            replace H11 : S wq10 [Old w no] := H6.absorb (new := []) H11
            refine b_ret rfl rfl ?_
            refine l_of (s_val (v := .int .i64 ((((tallN n.toNat) : Nat) : Int))) (wt0 rfl) rfl rfl (x_assign rfl rfl) ?_)
            refine g_nil ?_
            refine g_then ?_
            refine g_seq ?_
            refine g_seq ?_
            refine g_region ?_
            refine l_of (s_val (v := .int .i64 ((((tallN n.toNat) : Nat) : Int))) (wt0 rfl) rfl rfl (x_move rfl rfl) ?_)
            refine l_of (s_val (v := .int .i64 v) (wt0 rfl) rfl rfl (x_move rfl rfl) ?_)
            refine l_of (s_val (v := .int .i64 i) (wt0 rfl) rfl rfl (x_move rfl rfl) ?_)
            refine l_of (s_val (v := .slice p l.length c) (wt0 rfl) rfl rfl (x_move rfl rfl) ?_)
            refine l_of (s_val (v := .int .i64 ((l.length : Int))) (wt0 rfl) rfl rfl (x_lenl rfl rfl Tryz.underlying22) ?_)
            refine l_of (s_call (wt0 rfl) (x_call' rfl rfl cl42) (right_r (tallN n.toNat) v i (l.length : Int) (by have := tall_le12 (n := n.toNat) (by omega); omega) _) ?_)
            rintro _ wq12 ⟨rfl, H13⟩
            replace H13 : S wq12 [Old w no] := H11.absorb (new := []) H13
            refine b_ret rfl rfl ?_
            refine l_of (s_val (v := .bool (!((rightB (tallN n.toNat) v i (l.length : Int))))) (wt0 rfl) rfl rfl (x_not (b := (rightB (tallN n.toNat) v i (l.length : Int))) rfl rfl) ?_)
            refine l_of (s_val (v := .bool (!((rightB (tallN n.toNat) v i (l.length : Int))))) (wt0 rfl) rfl rfl (x_move rfl rfl) ?_)
            rcases Bool.eq_false_or_eq_true ((rightB (tallN n.toNat) v i (l.length : Int))) with hb14 | hb14
            · skip
              obtain ⟨o0, r1, _, r3, r4, r5, r6, r7, r8⟩ := right_s (tall_le12 (by omega)) hb14
              obtain ⟨o1, o2, o3, o4⟩ := nodeOk_s o0
              simp only [Int.toNat_natCast] at r5 r6 r8
              have ht12 : tallN n.toNat ≤ 12 := tall_le12 (by omega)
              have h4096 : 2 ^ (tallN n.toNat - v.toNat) ≤ 4096 := Nat.pow_le_pow_right (by omega) (show tallN n.toNat - v.toNat ≤ 12 by omega)
              refine l_of (s_val (v := .slice q u.length d) (wt1 rfl rfl rfl rfl (neg_of hb14)) rfl rfl (x_move rfl rfl) ?_)
              refine l_of (s_val (v := .int .i64 ((u.length : Int))) (wt1 rfl rfl rfl rfl (neg_of hb14)) rfl rfl (x_lenl rfl rfl Tryz.underlying22) ?_)
              refine l_of (s_val (v := .int .i64 ((((tallN n.toNat) : Nat) : Int))) (wt1 rfl rfl rfl rfl (neg_of hb14)) rfl rfl (x_move rfl rfl) ?_)
              refine l_of (s_val (v := .int .i64 v) (wt1 rfl rfl rfl rfl (neg_of hb14)) rfl rfl (x_move rfl rfl) ?_)
              refine l_of (s_val (v := .int .i64 ((((tallN n.toNat) : Nat) : Int) - v)) (wt1 rfl rfl rfl rfl (neg_of hb14)) rfl rfl (x_bin rfl rfl rfl (b_sub (w64 (by omega)))) ?_)
              refine l_of (s_val (v := .slice p l.length c) (wt1 rfl rfl rfl rfl (neg_of hb14)) rfl rfl (x_move rfl rfl) ?_)
              refine l_of (s_val (v := .int .i64 ((l.length : Int))) (wt1 rfl rfl rfl rfl (neg_of hb14)) rfl rfl (x_lenl rfl rfl Tryz.underlying22) ?_)
              refine l_of (s_call (wt1 rfl rfl rfl rfl (neg_of hb14)) (x_call' rfl rfl cl44) (power_r _ _) ?_)
              rintro _ wq15 ⟨rfl, H16⟩
              replace H16 : S wq15 [Old w no] := H13.absorb (new := []) H16
              refine b_ret rfl rfl ?_
              refine l_of (s_val (v := .int .i64 (((((tallN n.toNat) : Nat) : Int) - v) - (powerV (l.length : Int)))) (wt1 rfl rfl rfl rfl (neg_of hb14)) rfl rfl (x_bin rfl rfl rfl (b_sub (w64 (by omega)))) ?_)
              refine l_of (s_val (v := .bool (!decide (((u.length : Int) : Int) = ((((tallN n.toNat) : Nat) : Int) - v) - (powerV (l.length : Int))))) (wt1 rfl rfl rfl rfl (neg_of hb14)) rfl rfl (x_bin rfl rfl rfl b_neq) ?_)
              refine l_of (s_val (v := .bool (!decide (((u.length : Int) : Int) = ((((tallN n.toNat) : Nat) : Int) - v) - (powerV (l.length : Int))))) (wt0 rfl) rfl rfl (x_pick_f rfl rfl (neg_of hb14) rfl) ?_)
              refine g_nil ?_
              refine g_then ?_
              refine g_weak [(0, .string root), (3, .int .i64 i), (4, .slice p l.length c), (5, .slice q u.length d), (56, .bool (!decide (((u.length : Int) : Int) = ((((tallN n.toNat) : Nat) : Int) - v) - (powerV (l.length : Int)))))] ⟨rfl, rfl, rfl, rfl, rfl, trivial⟩ ?_
              by_cases hb17 : ((u.length : Int) : Int) = ((((tallN n.toNat) : Nat) : Int) - v) - (powerV (l.length : Int))
              · skip
                refine g_cond_f rfl (nf hb17) ?_
                refine g_skip ?_
                refine g_then ?_
                refine g_seq ?_
                refine g_region ?_
                refine l_of (s_val (v := .int .i64 i) (wt0 rfl) rfl rfl (x_move rfl rfl) ?_)
                refine l_of (s_val (v := .slice p l.length c) (wt0 rfl) rfl rfl (x_move rfl rfl) ?_)
                refine l_of (s_val (v := .slice q u.length d) (wt0 rfl) rfl rfl (x_move rfl rfl) ?_)
                refine l_of (s_call (wt0 rfl) (x_call' rfl rfl cl53) (way_i i l u p q c d (by omega) (by omega) (by omega) (by omega) hb4 hb7 hmu _ (H16.oldReads (k := 0) rfl hr) (H16.oldReads (k := 0) rfl hu)) ?_)
                rintro _ wq20 ⟨p18, c19, rfl, H21⟩
                replace H21 : S wq20 [Rw 9 1 p18 (u.length + 1) c19 (stV (wayTo (i.toNat / 2 ^ (tallN l.length)) ((upN (tallN l.length) l).getD 0 ⟨#[]⟩) u (u.length + 1))), Old w no] := H16.absorb (new := [Rw 9 1 p18 (u.length + 1) c19 (stV (wayTo (i.toNat / 2 ^ (tallN l.length)) ((upN (tallN l.length) l).getD 0 ⟨#[]⟩) u (u.length + 1)))]) H21
                refine b_ret rfl rfl ?_
                refine l_of (s_val (v := .slice p18 (u.length + 1) c19) (wt0 rfl) rfl rfl (x_assign rfl rfl) ?_)
                refine g_nil ?_
                refine g_then ?_
                refine g_seq ?_
                refine g_region ?_
                refine l_of (s_val (v := .slice p18 (u.length + 1) c19) (wt0 rfl) rfl rfl (x_move rfl rfl) ?_)
                refine l_of (s_val (v := .slice p18 (u.length + 1) c19) (wt0 rfl) rfl rfl (x_move rfl rfl) ?_)
                refine l_of (s_val (v := .int .i64 (((u.length + 1) : Int))) (wt0 rfl) rfl rfl (x_lenl rfl rfl Tryz.underlying22) ?_)
                refine l_of (s_val (v := .int .i64 ((u.length : Int))) (wt0 rfl) rfl rfl (x_bin rfl rfl rfl (b_sub (r := (u.length : Int)) (by rw [w64 (by omega)]; omega))) ?_)
                refine l_of (s_val (v := .pointer ((p18).map fun q => q.add (u.length * 1))) (wt0 rfl) rfl rfl (x_idxR u.length (H21.rwReads (k := 0) rfl) rfl rfl rfl Tryz.underlying22 sz9 (by omega)) ?_)
                refine l_of (s_val (v := .string ((madeS i.toNat l u))) (wt0 rfl) rfl rfl (x_loadR1 u.length (H21.rwReads (k := 0) rfl) (by omega) rfl rfl Tryz.underlying9 rfl (way_at (by omega))) ?_)
                refine l_of (s_val (v := .string root) (wt0 rfl) rfl rfl (x_move rfl rfl) ?_)
                refine l_of (s_val (v := .bool (decide ((madeS i.toNat l u) = root))) (wt0 rfl) rfl rfl (x_bin rfl rfl rfl b_eqs) ?_)
                refine l_of (s_val (v := .bool (decide ((madeS i.toNat l u) = root))) (wt0 rfl) rfl rfl (x_assign rfl rfl) ?_)
                refine g_nil ?_
                refine g_then ?_
                refine g_weak [(12, .bool (decide ((madeS i.toNat l u) = root)))] ⟨rfl, trivial⟩ ?_
                refine g_ret ?_
                refine fin_ret [.tmp 12] [.bool (decide ((madeS i.toNat l u) = root))] rfl ⟨rfl, trivial⟩ ?_
                exact ⟨by rw [chk_t (by omega) hb4 hb7 (by omega) (by omega) hb14 (by omega)]; rfl, H21.mask [false, true]⟩
              · skip
                refine g_cond_t rfl (nt hb17) ?_
                refine g_seq ?_
                refine g_region ?_
                refine l_of (s_val (v := .bool false) (wt0 rfl) rfl rfl (x_assign rfl rfl) ?_)
                refine g_nil ?_
                refine g_then ?_
                refine g_ret ?_
                refine g_then_ret ?_
                refine fin_ret [.tmp 12] [.bool false] rfl ⟨rfl, trivial⟩ ?_
                exact ⟨by rw [decide_eq_false (chk_f (.inr (.inr (.inr (.inr (.inr (.inr (by omega))))))))]; rfl, H16.mask [true]⟩
            · skip
              refine l_of (s_not (wn1 rfl rfl rfl rfl (neg_of hb14)) rfl rfl ?_)
              refine l_of (s_not (wn1 rfl rfl rfl rfl (neg_of hb14)) rfl rfl ?_)
              refine l_of (s_not (wn1 rfl rfl rfl rfl (neg_of hb14)) rfl rfl ?_)
              refine l_of (s_not (wn1 rfl rfl rfl rfl (neg_of hb14)) rfl rfl ?_)
              refine l_of (s_not (wn1 rfl rfl rfl rfl (neg_of hb14)) rfl rfl ?_)
              refine l_of (s_not (wn1 rfl rfl rfl rfl (neg_of hb14)) rfl rfl ?_)
              refine l_of (s_not (wn1 rfl rfl rfl rfl (neg_of hb14)) rfl rfl ?_)
              refine l_of (s_not (wn1 rfl rfl rfl rfl (neg_of hb14)) rfl rfl ?_)
              refine l_of (s_not (wn1 rfl rfl rfl rfl (neg_of hb14)) rfl rfl ?_)
              refine l_of (s_not (wn1 rfl rfl rfl rfl (neg_of hb14)) rfl rfl ?_)
              refine l_of (s_val (v := .bool true) (wt0 rfl) rfl rfl (x_pick_t rfl rfl (neg_of hb14) rfl) ?_)
              refine g_nil ?_
              refine g_then ?_
              refine g_weak [(0, .string root), (3, .int .i64 i), (4, .slice p l.length c), (5, .slice q u.length d), (56, .bool true)] ⟨rfl, rfl, rfl, rfl, rfl, trivial⟩ ?_
              refine g_cond_t rfl rfl ?_
              refine g_seq ?_
              refine g_region ?_
              refine l_of (s_val (v := .bool false) (wt0 rfl) rfl rfl (x_assign rfl rfl) ?_)
              refine g_nil ?_
              refine g_then ?_
              refine g_ret ?_
              refine g_then_ret ?_
              refine fin_ret [.tmp 12] [.bool false] rfl ⟨rfl, trivial⟩ ?_
              exact ⟨by rw [decide_eq_false (chk_f (.inr (.inr (.inr (.inr (.inr (.inl hb14)))))))]; rfl, H13.mask [true]⟩
      · skip
        refine l_of (s_not (wn1 rfl rfl rfl rfl (neg_of hb7)) rfl rfl ?_)
        refine l_of (s_not (wn1 rfl rfl rfl rfl (neg_of hb7)) rfl rfl ?_)
        refine l_of (s_val (v := .bool true) (wt0 rfl) rfl rfl (x_pick_t rfl rfl (neg_of hb7) rfl) ?_)
        refine l_of (s_val (v := .bool true) (wt0 rfl) rfl rfl (x_move rfl rfl) ?_)
        refine l_of (s_not (wn1 rfl rfl rfl rfl rfl) rfl rfl ?_)
        refine l_of (s_not (wn1 rfl rfl rfl rfl rfl) rfl rfl ?_)
        refine l_of (s_val (v := .bool true) (wt0 rfl) rfl rfl (x_pick_t rfl rfl rfl rfl) ?_)
        refine g_nil ?_
        refine g_then ?_
        refine g_weak [(0, .string root), (1, .int .i64 n), (2, .int .i64 v), (3, .int .i64 i), (4, .slice p l.length c), (5, .slice q u.length d), (35, .bool true)] ⟨rfl, rfl, rfl, rfl, rfl, rfl, rfl, trivial⟩ ?_
        refine g_cond_t rfl rfl ?_
        refine g_seq ?_
        refine g_region ?_
        refine l_of (s_val (v := .bool false) (wt0 rfl) rfl rfl (x_assign rfl rfl) ?_)
        refine g_nil ?_
        refine g_then ?_
        refine g_ret ?_
        refine g_then_ret ?_
        refine fin_ret [.tmp 12] [.bool false] rfl ⟨rfl, trivial⟩ ?_
        exact ⟨by rw [decide_eq_false (chk_f (.inr (.inr (.inl hb7))))]; rfl, H6.mask [true]⟩
    · skip
      refine l_of (s_not (wn1 rfl rfl rfl rfl (neg_of hb4)) rfl rfl ?_)
      refine l_of (s_not (wn1 rfl rfl rfl rfl (neg_of hb4)) rfl rfl ?_)
      refine l_of (s_not (wn1 rfl rfl rfl rfl (neg_of hb4)) rfl rfl ?_)
      refine l_of (s_val (v := .bool true) (wt0 rfl) rfl rfl (x_pick_t rfl rfl (neg_of hb4) rfl) ?_)
      refine l_of (s_val (v := .bool true) (wt0 rfl) rfl rfl (x_move rfl rfl) ?_)
      refine l_of (s_not (wn1 rfl rfl rfl rfl rfl) rfl rfl ?_)
      refine l_of (s_not (wn1 rfl rfl rfl rfl rfl) rfl rfl ?_)
      refine l_of (s_val (v := .bool true) (wt0 rfl) rfl rfl (x_pick_t rfl rfl rfl rfl) ?_)
      refine l_of (s_val (v := .bool true) (wt0 rfl) rfl rfl (x_move rfl rfl) ?_)
      refine l_of (s_not (wn1 rfl rfl rfl rfl rfl) rfl rfl ?_)
      refine l_of (s_not (wn1 rfl rfl rfl rfl rfl) rfl rfl ?_)
      refine l_of (s_val (v := .bool true) (wt0 rfl) rfl rfl (x_pick_t rfl rfl rfl rfl) ?_)
      refine g_nil ?_
      refine g_then ?_
      refine g_weak [(0, .string root), (1, .int .i64 n), (2, .int .i64 v), (3, .int .i64 i), (4, .slice p l.length c), (5, .slice q u.length d), (35, .bool true)] ⟨rfl, rfl, rfl, rfl, rfl, rfl, rfl, trivial⟩ ?_
      refine g_cond_t rfl rfl ?_
      refine g_seq ?_
      refine g_region ?_
      refine l_of (s_val (v := .bool false) (wt0 rfl) rfl rfl (x_assign rfl rfl) ?_)
      refine g_nil ?_
      refine g_then ?_
      refine g_ret ?_
      refine g_then_ret ?_
      refine fin_ret [.tmp 12] [.bool false] rfl ⟨rfl, trivial⟩ ?_
      exact ⟨by rw [decide_eq_false (chk_f (.inr (.inl hb4)))]; rfl, H3.mask [true]⟩
  · skip
    refine l_of (s_not (wn1 rfl rfl rfl rfl (nt hb1)) rfl rfl ?_)
    refine l_of (s_not (wn1 rfl rfl rfl rfl (nt hb1)) rfl rfl ?_)
    refine l_of (s_not (wn1 rfl rfl rfl rfl (nt hb1)) rfl rfl ?_)
    refine l_of (s_val (v := .bool true) (wt0 rfl) rfl rfl (x_pick_t rfl rfl (nt hb1) rfl) ?_)
    refine l_of (s_val (v := .bool true) (wt0 rfl) rfl rfl (x_move rfl rfl) ?_)
    refine l_of (s_not (wn1 rfl rfl rfl rfl rfl) rfl rfl ?_)
    refine l_of (s_not (wn1 rfl rfl rfl rfl rfl) rfl rfl ?_)
    refine l_of (s_not (wn1 rfl rfl rfl rfl rfl) rfl rfl ?_)
    refine l_of (s_val (v := .bool true) (wt0 rfl) rfl rfl (x_pick_t rfl rfl rfl rfl) ?_)
    refine l_of (s_val (v := .bool true) (wt0 rfl) rfl rfl (x_move rfl rfl) ?_)
    refine l_of (s_not (wn1 rfl rfl rfl rfl rfl) rfl rfl ?_)
    refine l_of (s_not (wn1 rfl rfl rfl rfl rfl) rfl rfl ?_)
    refine l_of (s_val (v := .bool true) (wt0 rfl) rfl rfl (x_pick_t rfl rfl rfl rfl) ?_)
    refine l_of (s_val (v := .bool true) (wt0 rfl) rfl rfl (x_move rfl rfl) ?_)
    refine l_of (s_not (wn1 rfl rfl rfl rfl rfl) rfl rfl ?_)
    refine l_of (s_not (wn1 rfl rfl rfl rfl rfl) rfl rfl ?_)
    refine l_of (s_val (v := .bool true) (wt0 rfl) rfl rfl (x_pick_t rfl rfl rfl rfl) ?_)
    refine g_nil ?_
    refine g_then ?_
    refine g_weak [(0, .string root), (1, .int .i64 n), (2, .int .i64 v), (3, .int .i64 i), (4, .slice p l.length c), (5, .slice q u.length d), (35, .bool true)] ⟨rfl, rfl, rfl, rfl, rfl, rfl, rfl, trivial⟩ ?_
    refine g_cond_t rfl rfl ?_
    refine g_seq ?_
    refine g_region ?_
    refine l_of (s_val (v := .bool false) (wt0 rfl) rfl rfl (x_assign rfl rfl) ?_)
    refine g_nil ?_
    refine g_then ?_
    refine g_ret ?_
    refine g_then_ret ?_
    refine fin_ret [.tmp 12] [.bool false] rfl ⟨rfl, trivial⟩ ?_
    exact ⟨by rw [decide_eq_false (chk_f (.inl (by omega)))]; rfl, H0.mask [true]⟩
end Go.Proofs.YtlajgickimgigaaGreat
