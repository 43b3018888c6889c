import Derived.Test.YtlajgickimgigaaGreatWE
set_option linter.unusedSimpArgs false
set_option linter.unusedVariables false
namespace Go.Proofs.YtlajgickimgigaaGreat
open Go.RowKit

theorem cl51 : callable Tryz.prog 51 = true := by kernel_rfl
theorem chk_add {n : Nat} {root : ByteArray} {v i : Int} {l u : List ByteArray} (hl : digsB l = true) (hu : digsB u = true) (hs : root.size = 32) (h1 : 1 ≤ n) (hn : n ≤ 4096) : chkE (n : Int) root v i l u = addE (tallN n) root v i l u := by
  unfold chkE addE
  rw [if_pos ⟨hl, hu, hs⟩, if_pos ⟨by omega, by omega⟩, if_pos ⟨hl, hu⟩, Int.toNat_natCast]
theorem add_1 {h : Nat} {root : ByteArray} {v i : Int} {l u : List ByteArray} (hq : ¬ (digsB l = true ∧ digsB u = true)) : addE h root v i l u = 1 := if_neg hq
theorem add_7 {h : Nat} {root : ByteArray} {v i : Int} {l u : List ByteArray} (hl : digsB l = true) (hu : digsB u = true) (hr : rightB h v i (l.length : Int) = false) : addE h root v i l u = 7 := by
  unfold addE provE
  rw [if_pos ⟨hl, hu⟩, if_neg (by rw [hr]; exact Bool.false_ne_true)]
theorem add_11 {h : Nat} {root : ByteArray} {v i : Int} {l u : List ByteArray} (hl : digsB l = true) (hu : digsB u = true) (hr : rightB h v i (l.length : Int) = true) (hc : ¬ (u.length : Int) = (h : Int) - v - ((tallN l.length : Nat) : Int)) : addE h root v i l u = 11 := by
  unfold addE provE
  rw [if_pos ⟨hl, hu⟩, if_pos hr, if_neg hc]
theorem add_13 {h : Nat} {root : ByteArray} {v i : Int} {l u : List ByteArray} (hl : digsB l = true) (hu : digsB u = true) (hr : rightB h v i (l.length : Int) = true) (hc : (u.length : Int) = (h : Int) - v - ((tallN l.length : Nat) : Int)) (h0 : ¬ addE h root v i l u = 0) : addE h root v i l u = 13 := by
  unfold addE provE at *
  rw [if_pos ⟨hl, hu⟩, if_pos hr, if_pos hc] at *
  split at h0
  · exact absurd rfl h0
  · rename_i h3; rw [if_neg h3]
def wayN (N0 : PM) (T B : Nat) (t0 : ByteArray) (u : List ByteArray) (k : Nat) : PM := if k ≤ u.length then stepN N0 T B t0 u k else pathM N0 T B t0 u u.length
theorem way_next1 {n : Nat} {M N0 R : PM} {T B : Nat} {t0 : ByteArray} {u : List ByteArray} {k : Nat} (h0 : N0 (T, B) = some t0) (h : Rel n M (wayN N0 T B t0 u k) R) (hk : k < u.length) : Rel n M (wayN N0 T B t0 u (k + 1)) (learnM n (learnM n R (T + k) (B / 2 ^ k) (topS B t0 u k)) (T + k) (B / 2 ^ k ^^^ 1) (u.getD k ⟨#[]⟩)) := by
  unfold wayN at *
  rw [if_pos (by omega)] at h ⊢
  have h1 := rel_up h (T + k) (B / 2 ^ k) (topS B t0 u k)
  rw [step_top h0] at h1
  exact rel_up h1 _ _ _
theorem way_next2 {n : Nat} {M N0 R : PM} {T B : Nat} {t0 : ByteArray} {u : List ByteArray} {k : Nat} (h0 : N0 (T, B) = some t0) (h : Rel n M (wayN N0 T B t0 u k) R) (hk : k = u.length) : Rel n M (wayN N0 T B t0 u (k + 1)) (learnM n R (T + k) (B / 2 ^ k) (topS B t0 u k)) := by
  subst hk
  unfold wayN at *
  rw [if_pos (Nat.le_refl _)] at h
  rw [if_neg (by omega)]
  have h1 := rel_up h (T + u.length) (B / 2 ^ u.length) (topS B t0 u u.length)
  rw [step_top h0] at h1
  exact h1
set_option maxRecDepth 20000 in
set_option maxHeartbeats 4000000 in
set_option maxRecDepth 20000 in
set_option maxHeartbeats 4000000 in
theorem add_r (tg mg n : Nat) (root : ByteArray) (M : PM) (X1 X2 : Item) (v i : Int) (l u : List ByteArray) (p q : Option Addr) (c d : Nat) (h1 : 1 ≤ n) (hn : n ≤ 4096) (hroot : M (tallN n, 0) = some root) (hsz : root.size = 32) (hm : l.length ≤ 1099511627776) (hmu : u.length ≤ 1099511627776) (w : World) (HS : S w [Ob tg (.cells #[.int .i64 ((n : Int)), .int .i64 (((tallN n) : Int)), .map (some mg)] 50 (0, 0)), Mp placeV Value.string placeOk mg (M), X1, X2]) (hX : ∀ W, X1.ok W → X2.ok W → Reads W p l.length c 1 (stV l)) (hY : ∀ W, X1.ok W → X2.ok W → Reads W q u.length d 1 (stV u)) : Calls Tryz.prog 16 #[.pointer (some ⟨tg, 0, none⟩), .int .i64 v, .int .i64 i, .slice p l.length c, .slice q u.length d] w fun e w' => ∃ R, (addE (tallN n) root v i l u = 0 → Rel n M (provM v.toNat i.toNat l u) R) ∧ (¬ addE (tallN n) root v i l u = 0 → R = M) ∧ e = .returned (.int .i64 (addE (tallN n) root v i l u)) ∧ S w' ([Ob tg (.cells #[.int .i64 ((n : Int)), .int .i64 (((tallN n) : Int)), .map (some mg)] 50 (0, 0)), Mp placeV Value.string placeOk mg (R), X1, X2] ++ [Old w (fps [Ob tg (.cells #[.int .i64 ((n : Int)), .int .i64 (((tallN n) : Int)), .map (some mg)] 50 (0, 0)), Mp placeV Value.string placeOk mg (M), X1, X2])]) := by
  have H00 := HS.beginI
  have H0 : S w ([Ob tg (.cells #[.int .i64 ((n : Int)), .int .i64 (((tallN n) : Int)), .map (some mg)] 50 (0, 0)), Mp placeV Value.string placeOk mg (M), X1, X2, Old w (fps [Ob tg (.cells #[.int .i64 ((n : Int)), .int .i64 (((tallN n) : Int)), .map (some mg)] 50 (0, 0)), Mp placeV Value.string placeOk mg (M), X1, X2])]) := H00
  have ht12 := tall_le12 hn
  refine enter 140 Tryz.func16 rfl rfl rfl ?_
  refine g_weak [(0, .pointer (some ⟨tg, 0, none⟩)), (1, .int .i64 v), (2, .int .i64 i), (3, .slice p l.length c), (4, .slice q u.length d)] ⟨rfl, rfl, rfl, rfl, rfl, trivial⟩ ?_
  refine g_seq ?_
  refine g_region ?_
  refine l_of (s_val (v := .int .i64 0) (wt0 rfl) rfl rfl (x_assign rfl rfl) ?_)
  refine g_nil ?_
  refine g_then ?_
  refine g_seq ?_
  refine g_seq ?_
  refine g_region ?_
  refine l_of (s_val (v := .slice p l.length c) (wt0 rfl) rfl rfl (x_move rfl rfl) ?_)
  refine l_of (s_call (wt0 rfl) (x_call' rfl rfl cl49) (digests_r l p l.length c rfl hm _ (hX _ (H0.at (k := 2) rfl) (H0.at (k := 3) rfl))) ?_)
  rintro _ wq1 ⟨rfl, H2⟩
  replace H2 : S wq1 [Ob tg (.cells #[.int .i64 ((n : Int)), .int .i64 (((tallN n) : Int)), .map (some mg)] 50 (0, 0)), Mp placeV Value.string placeOk mg (M), X1, X2, Old w (fps [Ob tg (.cells #[.int .i64 ((n : Int)), .int .i64 (((tallN n) : Int)), .map (some mg)] 50 (0, 0)), Mp placeV Value.string placeOk mg (M), X1, X2])] := H0.absorb (new := []) H2
  refine b_ret rfl rfl ?_
  refine l_of (s_val (v := .bool (!((digsB l)))) (wt0 rfl) rfl rfl (x_not (b := (digsB l)) rfl rfl) ?_)
  refine l_of (s_val (v := .bool (!((digsB l)))) (wt0 rfl) rfl rfl (x_move rfl rfl) ?_)
  rcases Bool.eq_false_or_eq_true ((digsB l)) with hb3 | hb3
  · skip
    have hdl := hb3
    refine l_of (s_val (v := .slice q u.length d) (wt1 rfl rfl rfl rfl (neg_of hb3)) rfl rfl (x_move rfl rfl) ?_)
    refine l_of (s_call (wt1 rfl rfl rfl rfl (neg_of hb3)) (x_call' rfl rfl cl49) (digests_r u q u.length d rfl hmu _ (hY _ (H2.at (k := 2) rfl) (H2.at (k := 3) rfl))) ?_)
    rintro _ wq4 ⟨rfl, H5⟩
    replace H5 : S wq4 [Ob tg (.cells #[.int .i64 ((n : Int)), .int .i64 (((tallN n) : Int)), .map (some mg)] 50 (0, 0)), Mp placeV Value.string placeOk mg (M), X1, X2, Old w (fps [Ob tg (.cells #[.int .i64 ((n : Int)), .int .i64 (((tallN n) : Int)), .map (some mg)] 50 (0, 0)), Mp placeV Value.string placeOk mg (M), X1, X2])] := H2.absorb (new := []) H5
    refine b_ret rfl rfl ?_
    refine l_of (s_val (v := .bool (!((digsB u)))) (wt1 rfl rfl rfl rfl (neg_of hb3)) rfl rfl (x_not (b := (digsB u)) rfl rfl) ?_)
    refine l_of (s_val (v := .bool (!((digsB u)))) (wt0 rfl) rfl rfl (x_pick_f rfl rfl (neg_of hb3) rfl) ?_)
    refine g_nil ?_
    refine g_then ?_
    rcases Bool.eq_false_or_eq_true ((digsB u)) with hb6 | hb6
    · skip
      have hdu := hb6
      refine g_cond_f rfl (neg_of hb6) ?_
      refine g_skip ?_
      refine g_then ?_
      refine g_seq ?_
      refine g_seq ?_
      refine g_region ?_
      refine l_of (s_val (v := .pointer (some ⟨tg, 0, none⟩)) (wt0 rfl) rfl rfl (x_move rfl rfl) ?_)
      refine l_of (s_val (v := .pointer (some ⟨tg, 0, none⟩)) (wt0 rfl) rfl rfl (x_nilCheck rfl rfl) ?_)
      refine l_of (s_val (v := .pointer (some ⟨tg, 1, none⟩)) (wt0 rfl) rfl rfl (x_fieldAddr rfl rfl fo50_1 rfl) ?_)
      refine l_of (s_val (v := .int .i64 (((tallN n) : Int))) (wt0 rfl) rfl rfl (x_load1 H5 0 rfl rfl Tryz.underlying3 rfl rfl rfl) ?_)
      refine l_of (s_val (v := .int .i64 v) (wt0 rfl) rfl rfl (x_move rfl rfl) ?_)
      refine l_of (s_val (v := .int .i64 i) (wt0 rfl) rfl rfl (x_move rfl rfl) ?_)
      refine l_of (s_val (v := .slice p l.length c) (wt0 rfl) rfl rfl (x_move rfl rfl) ?_)
      refine l_of (s_val (v := .int .i64 ((l.length : Int))) (wt0 rfl) rfl rfl (x_lenl rfl rfl Tryz.underlying22) ?_)
      refine l_of (s_call (wt0 rfl) (x_call' rfl rfl cl42) (right_r (tallN n) v i (l.length : Int) (by omega) _) ?_)
      rintro _ wq7 ⟨rfl, H8⟩
      replace H8 : S wq7 [Ob tg (.cells #[.int .i64 ((n : Int)), .int .i64 (((tallN n) : Int)), .map (some mg)] 50 (0, 0)), Mp placeV Value.string placeOk mg (M), X1, X2, Old w (fps [Ob tg (.cells #[.int .i64 ((n : Int)), .int .i64 (((tallN n) : Int)), .map (some mg)] 50 (0, 0)), Mp placeV Value.string placeOk mg (M), X1, X2])] := H5.absorb (new := []) H8
      refine b_ret rfl rfl ?_
      refine l_of (s_val (v := .bool (!((rightB (tallN n) v i (l.length : Int))))) (wt0 rfl) rfl rfl (x_not (b := (rightB (tallN n) v i (l.length : Int))) rfl rfl) ?_)
      refine g_nil ?_
      refine g_then ?_
      refine g_weak [(0, .pointer (some ⟨tg, 0, none⟩)), (1, .int .i64 v), (2, .int .i64 i), (3, .slice p l.length c), (4, .slice q u.length d), (37, .bool (!((rightB (tallN n) v i (l.length : Int)))))] ⟨rfl, rfl, rfl, rfl, rfl, rfl, trivial⟩ ?_
      rcases Bool.eq_false_or_eq_true ((rightB (tallN n) v i (l.length : Int))) with hb9 | hb9
      · skip
        obtain ⟨a1, a2, _⟩ := right_nats ht12 hb9
        obtain ⟨V0, rfl⟩ := nat_of a1
        obtain ⟨I0, rfl⟩ := nat_of a2
        obtain ⟨r1, r2, r3, r4, r5, r6, r7, r8, r9, r10⟩ := room ht12 hb9
        have hrr := hb9
        refine g_cond_f rfl (neg_of hb9) ?_
        refine g_skip ?_
        refine g_then ?_
        refine g_seq ?_
        refine g_region ?_
        refine l_of (s_val (v := .int .i64 ((V0 : Int))) (wt0 rfl) rfl rfl (x_move rfl rfl) ?_)
        refine l_of (s_val (v := .slice p l.length c) (wt0 rfl) rfl rfl (x_move rfl rfl) ?_)
        refine l_of (s_val (v := .int .i64 ((l.length : Int))) (wt0 rfl) rfl rfl (x_lenl rfl rfl Tryz.underlying22) ?_)
        have hpw10 := power_r (l.length : Int) wq7
        rw [r9] at hpw10
        refine l_of (s_call (wt0 rfl) (x_call' rfl rfl cl44) (hpw10) ?_)
        rintro _ wq11 ⟨rfl, H12⟩
        replace H12 : S wq11 [Ob tg (.cells #[.int .i64 ((n : Int)), .int .i64 (((tallN n) : Int)), .map (some mg)] 50 (0, 0)), Mp placeV Value.string placeOk mg (M), X1, X2, Old w (fps [Ob tg (.cells #[.int .i64 ((n : Int)), .int .i64 (((tallN n) : Int)), .map (some mg)] 50 (0, 0)), Mp placeV Value.string placeOk mg (M), X1, X2])] := H8.absorb (new := []) H12
        refine b_ret rfl rfl ?_
        refine l_of (s_val (v := .int .i64 ((((V0 + (tallN l.length)) : Nat) : Int))) (wt0 rfl) rfl rfl (x_bin rfl rfl rfl (b_addN (a := V0) (b := (tallN l.length)) (by omega))) ?_)
        refine l_of (s_val (v := .int .i64 ((((V0 + (tallN l.length)) : Nat) : Int))) (wt0 rfl) rfl rfl (x_assign rfl rfl) ?_)
        refine g_nil ?_
        refine g_then ?_
        refine g_seq ?_
        refine g_block ?_
        refine g_seq ?_
        refine g_region ?_
        refine l_of (s_val (v := .slice q u.length d) (wt0 rfl) rfl rfl (x_move rfl rfl) ?_)
        refine l_of (s_val (v := .int .i64 ((u.length : Int))) (wt0 rfl) rfl rfl (x_lenl rfl rfl Tryz.underlying22) ?_)
        refine l_of (s_val (v := .pointer (some ⟨tg, 0, none⟩)) (wt0 rfl) rfl rfl (x_move rfl rfl) ?_)
        refine l_of (s_val (v := .pointer (some ⟨tg, 0, none⟩)) (wt0 rfl) rfl rfl (x_nilCheck rfl rfl) ?_)
        refine l_of (s_val (v := .pointer (some ⟨tg, 1, none⟩)) (wt0 rfl) rfl rfl (x_fieldAddr rfl rfl fo50_1 rfl) ?_)
        refine l_of (s_val (v := .int .i64 (((tallN n) : Int))) (wt0 rfl) rfl rfl (x_load1 H12 0 rfl rfl Tryz.underlying3 rfl rfl rfl) ?_)
        refine l_of (s_val (v := .int .i64 ((((V0 + (tallN l.length)) : Nat) : Int))) (wt0 rfl) rfl rfl (x_move rfl rfl) ?_)
        refine l_of (s_val (v := .int .i64 (((tallN n) : Int) - (((V0 + (tallN l.length)) : Nat) : Int))) (wt0 rfl) rfl rfl (x_bin rfl rfl rfl (b_sub (w64 (by omega)))) ?_)
        refine l_of (s_val (v := .bool (!decide (((u.length : Int) : Int) = ((tallN n) : Int) - (((V0 + (tallN l.length)) : Nat) : Int)))) (wt0 rfl) rfl rfl (x_bin rfl rfl rfl b_neq) ?_)
        refine l_of (s_val (v := .bool (!decide (((u.length : Int) : Int) = ((tallN n) : Int) - (((V0 + (tallN l.length)) : Nat) : Int)))) (wt0 rfl) rfl rfl (x_assign rfl rfl) ?_)
        refine g_nil ?_
        refine g_then ?_
        refine g_weak [(0, .pointer (some ⟨tg, 0, none⟩)), (1, .int .i64 ((V0 : Int))), (2, .int .i64 ((I0 : Int))), (3, .slice p l.length c), (4, .slice q u.length d), (11, .int .i64 ((((V0 + (tallN l.length)) : Nat) : Int))), (43, .bool (!decide (((u.length : Int) : Int) = ((tallN n) : Int) - (((V0 + (tallN l.length)) : Nat) : Int))))] ⟨rfl, rfl, rfl, rfl, rfl, rfl, rfl, trivial⟩ ?_
        by_cases hb13 : ((u.length : Int) : Int) = ((tallN n) : Int) - (((V0 + (tallN l.length)) : Nat) : Int)
        · skip
          refine g_cond_f rfl (nf hb13) ?_
          refine g_seq ?_
          refine g_any [] (fun wx => S wx [Ob tg (.cells #[.int .i64 ((n : Int)), .int .i64 (((tallN n) : Int)), .map (some mg)] 50 (0, 0)), Mp placeV Value.string placeOk mg (M), X1, X2, Old w (fps [Ob tg (.cells #[.int .i64 ((n : Int)), .int .i64 (((tallN n) : Int)), .map (some mg)] 50 (0, 0)), Mp placeV Value.string placeOk mg (M), X1, X2])]) [] (by kernel_rfl) H12 (fun wq14 H15 => ?_)
          refine a_take (v := .pointer (some ⟨tg, 0, none⟩)) 0 rfl (wt0 rfl) rfl rfl rfl (by kernel_rfl) (by kernel_rfl) (by kernel_rfl) (by kernel_rfl) H15 (fun wx H => x_move rfl rfl) ?_
          refine a_take (v := .pointer (some ⟨tg, 0, none⟩)) 1 rfl (wt0 rfl) rfl rfl rfl (by kernel_rfl) (by kernel_rfl) (by kernel_rfl) (by kernel_rfl) H15 (fun wx H => x_nilCheck rfl rfl) ?_
          refine a_take (v := .pointer (some ⟨tg, 2, none⟩)) 2 rfl (wt0 rfl) rfl rfl rfl (by kernel_rfl) (by kernel_rfl) (by kernel_rfl) (by kernel_rfl) H15 (fun wx H => x_fieldAddr rfl rfl fo50_2 rfl) ?_
          refine a_take (v := .map (some mg)) 3 rfl (wt0 rfl) rfl rfl rfl (by kernel_rfl) (by kernel_rfl) (by kernel_rfl) (by kernel_rfl) H15 (fun wx H => x_load1 H 0 rfl rfl Tryz.underlying48 rfl rfl rfl) ?_
          refine a_take (v := .pointer (some ⟨tg, 0, none⟩)) 4 rfl (wt0 rfl) rfl rfl rfl (by kernel_rfl) (by kernel_rfl) (by kernel_rfl) (by kernel_rfl) H15 (fun wx H => x_move rfl rfl) ?_
          refine a_take (v := .pointer (some ⟨tg, 0, none⟩)) 5 rfl (wt0 rfl) rfl rfl rfl (by kernel_rfl) (by kernel_rfl) (by kernel_rfl) (by kernel_rfl) H15 (fun wx H => x_nilCheck rfl rfl) ?_
          refine a_take (v := .pointer (some ⟨tg, 1, none⟩)) 6 rfl (wt0 rfl) rfl rfl rfl (by kernel_rfl) (by kernel_rfl) (by kernel_rfl) (by kernel_rfl) H15 (fun wx H => x_fieldAddr rfl rfl fo50_1 rfl) ?_
          refine a_take (v := .int .i64 (((tallN n) : Int))) 7 rfl (wt0 rfl) rfl rfl rfl (by kernel_rfl) (by kernel_rfl) (by kernel_rfl) (by kernel_rfl) H15 (fun wx H => x_load1 H 0 rfl rfl Tryz.underlying3 rfl rfl rfl) ?_
          refine a_take (v := .agg #[.int .i64 (((tallN n) : Int)), .int .i64 0]) 8 rfl (wt0 rfl) rfl rfl rfl (by kernel_rfl) (by kernel_rfl) (by kernel_rfl) (by kernel_rfl) H15 (fun wx H => x_build (vs := [.int .i64 (((tallN n) : Int)), .int .i64 0]) rfl rfl (cells := #[.int .i64 (((tallN n) : Int)), .int .i64 0]) (by kernel_rfl)) ?_
          refine a_take (v := .string root) 9 rfl (wt0 rfl) rfl rfl rfl (by kernel_rfl) (by kernel_rfl) (by kernel_rfl) (by kernel_rfl) H15 (fun wx H => ex_cast (x_lookup1 (x := ((tallN n), 0)) placeR H 1 rfl rfl rfl rfl ⟨by (show _ ≤ 1099511627776); omega, by (show _ ≤ 1099511627776); omega⟩ ze9) (by rw [hroot]; rfl)) ?_
          refine a_take (v := .pointer (some ⟨tg, 0, none⟩)) 10 rfl (wt0 rfl) rfl rfl rfl (by kernel_rfl) (by kernel_rfl) (by kernel_rfl) (by kernel_rfl) H15 (fun wx H => x_move rfl rfl) ?_
          refine a_take (v := .pointer (some ⟨tg, 0, none⟩)) 11 rfl (wt0 rfl) rfl rfl rfl (by kernel_rfl) (by kernel_rfl) (by kernel_rfl) (by kernel_rfl) H15 (fun wx H => x_nilCheck rfl rfl) ?_
          refine a_take (v := .pointer (some ⟨tg, 0, none⟩)) 12 rfl (wt0 rfl) rfl rfl rfl (by kernel_rfl) (by kernel_rfl) (by kernel_rfl) (by kernel_rfl) H15 (fun wx H => x_fieldAddr rfl rfl fo50_0 rfl) ?_
          refine a_take (v := .int .i64 ((n : Int))) 13 rfl (wt0 rfl) rfl rfl rfl (by kernel_rfl) (by kernel_rfl) (by kernel_rfl) (by kernel_rfl) H15 (fun wx H => x_load1 H 0 rfl rfl Tryz.underlying3 rfl rfl rfl) ?_
          refine a_take (v := .int .i64 ((V0 : Int))) 14 rfl (wt0 rfl) rfl rfl rfl (by kernel_rfl) (by kernel_rfl) (by kernel_rfl) (by kernel_rfl) H15 (fun wx H => x_move rfl rfl) ?_
          refine a_take (v := .int .i64 ((I0 : Int))) 15 rfl (wt0 rfl) rfl rfl rfl (by kernel_rfl) (by kernel_rfl) (by kernel_rfl) (by kernel_rfl) H15 (fun wx H => x_move rfl rfl) ?_
          refine a_take (v := .slice p l.length c) 16 rfl (wt0 rfl) rfl rfl rfl (by kernel_rfl) (by kernel_rfl) (by kernel_rfl) (by kernel_rfl) H15 (fun wx H => x_move rfl rfl) ?_
          refine a_take (v := .slice q u.length d) 17 rfl (wt0 rfl) rfl rfl rfl (by kernel_rfl) (by kernel_rfl) (by kernel_rfl) (by kernel_rfl) H15 (fun wx H => x_move rfl rfl) ?_
          refine a_one (i := 18) (by kernel_rfl) rfl ?_
          refine s_call (wt0 rfl) (x_call' rfl rfl cl50) (check_r2 (n : Int) root (V0 : Int) (I0 : Int) l u p q c d hm hmu _ (hX _ (H15.at (k := 2) rfl) (H15.at (k := 3) rfl)) (hY _ (H15.at (k := 2) rfl) (H15.at (k := 3) rfl))) ?_
          rintro _ wq16 ⟨rfl, H17⟩
          replace H17 : S wq16 [Ob tg (.cells #[.int .i64 ((n : Int)), .int .i64 (((tallN n) : Int)), .map (some mg)] 50 (0, 0)), Mp placeV Value.string placeOk mg (M), X1, X2, Old w (fps [Ob tg (.cells #[.int .i64 ((n : Int)), .int .i64 (((tallN n) : Int)), .map (some mg)] 50 (0, 0)), Mp placeV Value.string placeOk mg (M), X1, X2])] := H15.absorb (new := []) H17
          refine b_ret rfl rfl ?_
          refine a_k H17 ?_
          refine a_take (v := .bool (!decide (chkE (n : Int) root (V0 : Int) (I0 : Int) l u = 0))) 19 rfl (wt0 rfl) rfl rfl rfl (by kernel_rfl) (by kernel_rfl) (by kernel_rfl) (by kernel_rfl) H17 (fun wx H => x_not (b := decide (chkE (n : Int) root (V0 : Int) (I0 : Int) l u = 0)) rfl rfl) ?_
          refine a_take (v := .bool (!decide (chkE (n : Int) root (V0 : Int) (I0 : Int) l u = 0))) 20 rfl (wt0 rfl) rfl rfl rfl (by kernel_rfl) (by kernel_rfl) (by kernel_rfl) (by kernel_rfl) H17 (fun wx H => x_assign rfl rfl) ?_
          refine a_done (by kernel_rfl) ?_
          refine g_then ?_
          refine g_weak [(0, .pointer (some ⟨tg, 0, none⟩)), (1, .int .i64 ((V0 : Int))), (2, .int .i64 ((I0 : Int))), (3, .slice p l.length c), (4, .slice q u.length d), (11, .int .i64 ((((V0 + (tallN l.length)) : Nat) : Int))), (53, .bool (!decide (chkE (n : Int) root (V0 : Int) (I0 : Int) l u = 0)))] ⟨rfl, rfl, rfl, rfl, rfl, rfl, rfl, trivial⟩ ?_
          by_cases hb18 : chkE (n : Int) root (V0 : Int) (I0 : Int) l u = 0
          · skip
            have hae : addE (tallN n) root (V0 : Int) (I0 : Int) l u = 0 := by rw [← chk_add hdl hdu hsz h1 hn]; exact hb18
            refine g_cond_f rfl (nf hb18) ?_
            refine g_skip ?_
            refine g_in ?_
            refine g_then ?_
            refine g_seq ?_
            refine g_region ?_
            refine l_of (s_val (v := .slice p l.length c) (wt0 rfl) rfl rfl (x_move rfl rfl) ?_)
            refine l_of (s_val (v := .slice p l.length c) (wt0 rfl) rfl rfl (x_assign rfl rfl) ?_)
            refine g_nil ?_
            refine g_then ?_
            refine g_seq ?_
            refine g_region ?_
            refine l_of (s_val (v := .int .i64 ((I0 : Int))) (wt0 rfl) rfl rfl (x_move rfl rfl) ?_)
            refine l_of (s_val (v := .int .i64 ((I0 : Int))) (wt0 rfl) rfl rfl (x_assign rfl rfl) ?_)
            refine g_nil ?_
            refine g_then ?_
            refine g_seq ?_
            refine g_seq ?_
            refine g_region ?_
            refine l_of (s_val (v := .int .i64 ((V0 : Int))) (wt0 rfl) rfl rfl (x_move rfl rfl) ?_)
            have H19 : S wq16 [Big [], Ob tg (.cells #[.int .i64 ((n : Int)), .int .i64 (((tallN n) : Int)), .map (some mg)] 50 (0, 0)), Mp placeV Value.string placeOk mg (M), X1, X2, Old w (fps [Ob tg (.cells #[.int .i64 ((n : Int)), .int .i64 (((tallN n) : Int)), .map (some mg)] 50 (0, 0)), Mp placeV Value.string placeOk mg (M), X1, X2])] := H17.nilBig
            refine l_of (s_val (v := .int .i64 ((V0 : Int))) (wt0 rfl) rfl rfl (x_assign rfl rfl) ?_)
            refine g_nil ?_
            refine g_then ?_
            refine g_block ?_
            refine g_loop (ι := Nat × Nat × Option Addr × Nat × Item × PM) (fun (s, fs, q1, d1, Y, R) => [(0, .pointer (some ⟨tg, 0, none⟩)), (2, .int .i64 ((I0 : Int))), (3, .slice p l.length c), (4, .slice q u.length d), (11, .int .i64 ((((V0 + (tallN l.length)) : Nat) : Int))), (12, .slice q1 (upN s l).length d1), (13, .int .i64 ((fs : Int))), (14, .int .i64 (((V0 + s : Nat) : Int)))]) (fun (s, fs, q1, d1, Y, R) wx => (s ≤ (tallN l.length) + 1) ∧ (fs = I0 / 2 ^ s) ∧ (s ≤ (tallN l.length) → (upN s l).length = 2 ^ ((tallN l.length) - s)) ∧ (∀ W, X1.ok W → X2.ok W → Y.ok W → Reads W q1 (upN s l).length d1 1 (stV (upN s l))) ∧ (Rel n M (lowM V0 I0 l s) R) ∧ S wx [Ob tg (.cells #[.int .i64 ((n : Int)), .int .i64 (((tallN n) : Int)), .map (some mg)] 50 (0, 0)), Mp placeV Value.string placeOk mg (R), X1, X2, Y, Old w (fps [Ob tg (.cells #[.int .i64 ((n : Int)), .int .i64 (((tallN n) : Int)), .map (some mg)] 50 (0, 0)), Mp placeV Value.string placeOk mg (M), X1, X2])]) (fun (s, fs, q1, d1, Y, R) => (tallN l.length) + 1 - s) (0, I0, p, c, Big [], M) ⟨rfl, rfl, rfl, rfl, rfl, rfl, rfl, rfl, trivial⟩ ⟨Nat.zero_le _, (by rw [Nat.pow_zero, Nat.div_one]), (fun _ => by rw [Nat.sub_zero, r8]; rfl), (fun W h1 h2 _ => hX W h1 h2), rel_none n M, (H19.takes [1, 2, 3, 4, 0, 5] (by decide))⟩ ?_
            rintro ⟨s, fs, q1, d1, Y, R⟩ wq20 ⟨hs, hfs, hlen, hYY, hR, H21⟩
            replace H21 : S wq20 [Ob tg (.cells #[.int .i64 ((n : Int)), .int .i64 (((tallN n) : Int)), .map (some mg)] 50 (0, 0)), Mp placeV Value.string placeOk mg (R), X1, X2, Y, Old w (fps [Ob tg (.cells #[.int .i64 ((n : Int)), .int .i64 (((tallN n) : Int)), .map (some mg)] 50 (0, 0)), Mp placeV Value.string placeOk mg (M), X1, X2])] := H21
            refine g_weak [(0, .pointer (some ⟨tg, 0, none⟩)), (2, .int .i64 ((I0 : Int))), (3, .slice p l.length c), (4, .slice q u.length d), (11, .int .i64 ((((V0 + (tallN l.length)) : Nat) : Int))), (12, .slice q1 (upN s l).length d1), (13, .int .i64 ((fs : Int))), (14, .int .i64 (((V0 + s : Nat) : Int)))] ⟨rfl, rfl, rfl, rfl, rfl, rfl, rfl, rfl, trivial⟩ ?_
            have hz : ∀ j, j < (upN s l).length → ((upN s l).getD j ⟨#[]⟩).size ≤ 65536 := fun j hj => getD_size (digs_size (upN_digs hdl s)) hj
            have hfi : fs ≤ I0 := by rw [hfs]; exact Nat.div_le_self _ _
            have hkj : 2 ^ ((tallN l.length) - s) ≤ 2 ^ (tallN l.length) := Nat.pow_le_pow_right (by omega) (by omega)
            refine g_seq ?_
            refine g_seq ?_
            refine g_region ?_
            refine l_of (s_val (v := .int .i64 (((V0 + s : Nat) : Int))) (wt0 rfl) rfl rfl (x_move rfl rfl) ?_)
            refine l_of (s_val (v := .int .i64 ((((V0 + (tallN l.length)) : Nat) : Int))) (wt0 rfl) rfl rfl (x_move rfl rfl) ?_)
            refine l_of (s_val (v := .bool (decide ((((V0 + s : Nat) : Int) : Int) ≤ (((V0 + (tallN l.length)) : Nat) : Int)))) (wt0 rfl) rfl rfl (x_bin rfl rfl rfl b_leq) ?_)
            refine g_nil ?_
            refine g_then ?_
            by_cases hb22 : (((V0 + s : Nat) : Int) : Int) ≤ (((V0 + (tallN l.length)) : Nat) : Int)
            · skip
              refine g_cond_t rfl (decide_eq_true hb22) ?_
              refine g_skip ?_
              refine g_then ?_
              refine g_seq ?_
              refine g_block ?_
              refine g_seq ?_
              refine g_seq ?_
              refine g_region ?_
              refine l_of (s_val (v := .slice q1 (upN s l).length d1) (wt0 rfl) rfl rfl (x_move rfl rfl) ?_)
              refine l_of (s_val (v := .int .i64 (((upN s l).length : Int))) (wt0 rfl) rfl rfl (x_lenl rfl rfl Tryz.underlying22) ?_)
              refine l_of (s_val (v := .int .i64 0) (wt0 rfl) rfl rfl (x_move rfl rfl) ?_)
              refine g_nil ?_
              refine g_then ?_
              refine g_block ?_
              have hln := hlen (by omega)
              refine g_loop (ι := Nat × PM) (fun (j, R2) => [(0, .pointer (some ⟨tg, 0, none⟩)), (2, .int .i64 ((I0 : Int))), (3, .slice p l.length c), (4, .slice q u.length d), (11, .int .i64 ((((V0 + (tallN l.length)) : Nat) : Int))), (12, .slice q1 (upN s l).length d1), (13, .int .i64 ((fs : Int))), (14, .int .i64 (((V0 + s : Nat) : Int))), (82, .slice q1 (upN s l).length d1), (83, .int .i64 (((upN s l).length : Int))), (84, .int .i64 ((j : Int)))]) (fun (j, R2) wx => (j ≤ (upN s l).length) ∧ (Rel n M (rowM (lowM V0 I0 l s) (V0 + s) (I0 / 2 ^ s) (upN s l) j) R2) ∧ S wx [Ob tg (.cells #[.int .i64 ((n : Int)), .int .i64 (((tallN n) : Int)), .map (some mg)] 50 (0, 0)), Mp placeV Value.string placeOk mg (R2), X1, X2, Y, Old w (fps [Ob tg (.cells #[.int .i64 ((n : Int)), .int .i64 (((tallN n) : Int)), .map (some mg)] 50 (0, 0)), Mp placeV Value.string placeOk mg (M), X1, X2])]) (fun (j, R2) => (upN s l).length - j) (0, R) ⟨rfl, rfl, rfl, rfl, rfl, rfl, rfl, rfl, rfl, rfl, rfl, trivial⟩ ⟨Nat.zero_le _, hR, (H21.takes [0, 1, 2, 3, 4, 5] (by decide))⟩ ?_
              rintro ⟨j, R2⟩ wq23 ⟨hj, hR2, H24⟩
              replace H24 : S wq23 [Ob tg (.cells #[.int .i64 ((n : Int)), .int .i64 (((tallN n) : Int)), .map (some mg)] 50 (0, 0)), Mp placeV Value.string placeOk mg (R2), X1, X2, Y, Old w (fps [Ob tg (.cells #[.int .i64 ((n : Int)), .int .i64 (((tallN n) : Int)), .map (some mg)] 50 (0, 0)), Mp placeV Value.string placeOk mg (M), X1, X2])] := H24
              refine g_weak [(0, .pointer (some ⟨tg, 0, none⟩)), (2, .int .i64 ((I0 : Int))), (3, .slice p l.length c), (4, .slice q u.length d), (11, .int .i64 ((((V0 + (tallN l.length)) : Nat) : Int))), (12, .slice q1 (upN s l).length d1), (13, .int .i64 ((fs : Int))), (14, .int .i64 (((V0 + s : Nat) : Int))), (82, .slice q1 (upN s l).length d1), (83, .int .i64 (((upN s l).length : Int))), (84, .int .i64 ((j : Int)))] ⟨rfl, rfl, rfl, rfl, rfl, rfl, rfl, rfl, rfl, rfl, rfl, trivial⟩ ?_
              skip
              refine g_seq ?_
              refine g_region ?_
              refine l_of (s_val (v := .bool (decide (((j : Int) : Int) < ((upN s l).length : Int)))) (wt0 rfl) rfl rfl (x_bin rfl rfl rfl b_lss) ?_)
              refine g_nil ?_
              refine g_then ?_
              refine g_seq ?_
              by_cases hb25 : ((j : Int) : Int) < ((upN s l).length : Int)
              · skip
                refine g_cond_t rfl (decide_eq_true hb25) ?_
                refine g_skip ?_
                refine g_then ?_
                refine g_seq ?_
                refine g_block ?_
                refine g_seq ?_
                refine g_region ?_
                refine l_of (s_val (v := .int .i64 ((j : Int))) (wt0 rfl) rfl rfl (x_move rfl rfl) ?_)
                refine l_of (s_val (v := .pointer ((q1).map fun q => q.add (j * 1))) (wt0 rfl) rfl rfl (x_idxR j (hYY _ (H24.at (k := 2) rfl) (H24.at (k := 3) rfl) (H24.at (k := 4) rfl)) rfl rfl rfl Tryz.underlying22 sz9 (by omega)) ?_)
                refine l_of (s_val (v := .string (((upN s l).getD (j) ⟨#[]⟩))) (wt0 rfl) rfl rfl (x_loadR1 j (hYY _ (H24.at (k := 2) rfl) (H24.at (k := 3) rfl) (H24.at (k := 4) rfl)) (by omega) rfl rfl Tryz.underlying9 rfl (stV_at (by omega))) ?_)
                refine l_of (s_val (v := .int .i64 ((j : Int))) (wt0 rfl) rfl rfl (x_assign rfl rfl) ?_)
                refine l_of (s_val (v := .string (((upN s l).getD (j) ⟨#[]⟩))) (wt0 rfl) rfl rfl (x_assign rfl rfl) ?_)
                refine g_nil ?_
                refine g_then ?_
                refine g_region ?_
                refine l_of (s_val (v := .pointer (some ⟨tg, 0, none⟩)) (wt0 rfl) rfl rfl (x_move rfl rfl) ?_)
                refine l_of (s_val (v := .int .i64 (((V0 + s : Nat) : Int))) (wt0 rfl) rfl rfl (x_move rfl rfl) ?_)
                refine l_of (s_val (v := .int .i64 ((fs : Int))) (wt0 rfl) rfl rfl (x_move rfl rfl) ?_)
                refine l_of (s_val (v := .int .i64 ((j : Int))) (wt0 rfl) rfl rfl (x_move rfl rfl) ?_)
                refine l_of (s_val (v := .int .i64 (((fs + j : Nat) : Int))) (wt0 rfl) rfl rfl (x_bin rfl rfl rfl (b_addN (a := fs) (b := j) (by omega))) ?_)
                refine l_of (s_val (v := .string (((upN s l).getD (j) ⟨#[]⟩))) (wt0 rfl) rfl rfl (x_move rfl rfl) ?_)
                refine l_of (s_call (wt0 rfl) (x_call' rfl rfl cl51) (learn_r tg mg n (tallN n) (R2) (V0 + s) (fs + j) ((upN s l).getD (j) ⟨#[]⟩) h1 (by omega) (by omega) (by omega) _ (H24.takes [0, 1] (by decide))) ?_)
                rintro _ wq26 ⟨rfl, H27⟩
                replace H27 : S wq26 [Ob tg (.cells #[.int .i64 ((n : Int)), .int .i64 (((tallN n) : Int)), .map (some mg)] 50 (0, 0)), Mp placeV Value.string placeOk mg (learnM n R2 (V0 + s) (fs + j) ((upN s l).getD (j) ⟨#[]⟩)), X1, X2, Y, Old w (fps [Ob tg (.cells #[.int .i64 ((n : Int)), .int .i64 (((tallN n) : Int)), .map (some mg)] 50 (0, 0)), Mp placeV Value.string placeOk mg (M), X1, X2])] := H24.absorbI (new := [Ob tg (.cells #[.int .i64 ((n : Int)), .int .i64 (((tallN n) : Int)), .map (some mg)] 50 (0, 0)), Mp placeV Value.string placeOk mg (learnM n R2 (V0 + s) (fs + j) ((upN s l).getD (j) ⟨#[]⟩))]) [0, 1] H27
                refine b_ret rfl rfl ?_
                refine g_nil ?_
                refine g_in ?_
                refine g_then ?_
                refine g_weak [(0, .pointer (some ⟨tg, 0, none⟩)), (2, .int .i64 ((I0 : Int))), (3, .slice p l.length c), (4, .slice q u.length d), (11, .int .i64 ((((V0 + (tallN l.length)) : Nat) : Int))), (12, .slice q1 (upN s l).length d1), (13, .int .i64 ((fs : Int))), (14, .int .i64 (((V0 + s : Nat) : Int))), (82, .slice q1 (upN s l).length d1), (83, .int .i64 (((upN s l).length : Int))), (84, .int .i64 ((j : Int)))] ⟨rfl, rfl, rfl, rfl, rfl, rfl, rfl, rfl, rfl, rfl, rfl, trivial⟩ ?_
                refine g_region ?_
                refine l_of (s_val (v := .int .i64 ((j : Int) + 1)) (wt0 rfl) rfl rfl (x_bin rfl rfl rfl (b_add (w64 (by omega)))) ?_)
                refine l_of (s_val (v := .int .i64 ((j : Int) + 1)) (wt0 rfl) rfl rfl (x_move rfl rfl) ?_)
                refine g_nil ?_
                refine g_then ?_
                refine g_round (i := (j, R2)) (j + 1, (learnM n R2 (V0 + s) (fs + j) ((upN s l).getD (j) ⟨#[]⟩))) ?_ ?_ ?_
                · exact ⟨rfl, rfl, rfl, rfl, rfl, rfl, rfl, rfl, rfl, rfl, rfl, trivial⟩
                · exact ⟨by omega, (by rw [hfs]; exact rel_up hR2 _ _ _), (H27.takes [0, 1, 2, 3, 4, 5] (by decide))⟩
                · (try dsimp only); omega
              · skip
                have hjj : j = (upN s l).length := by omega
                subst hjj
                refine g_cond_f rfl (decide_eq_false hb25) ?_
                refine g_exit ?_
                refine g_then_exit ?_
                refine g_then_exit ?_
                refine g_in_hit ?_
                refine g_then ?_
                refine g_seq ?_
                refine g_region ?_
                refine l_of (s_val (v := .slice q1 (upN s l).length d1) (wt0 rfl) rfl rfl (x_move rfl rfl) ?_)
                refine l_of (s_call (wt0 rfl) (x_call' rfl rfl cl52) (up_r (upN s l) q1 _ d1 rfl hz (by omega) _ (hYY _ (H24.at (k := 2) rfl) (H24.at (k := 3) rfl) (H24.at (k := 4) rfl))) ?_)
                rintro _ wq30 ⟨p28, c29, rfl, H31⟩
                replace H31 : S wq30 [Rw 9 1 p28 ((upN s l).length / 2) c29 (stV (upS (upN s l))), Ob tg (.cells #[.int .i64 ((n : Int)), .int .i64 (((tallN n) : Int)), .map (some mg)] 50 (0, 0)), Mp placeV Value.string placeOk mg (R2), X1, X2, Y, Old w (fps [Ob tg (.cells #[.int .i64 ((n : Int)), .int .i64 (((tallN n) : Int)), .map (some mg)] 50 (0, 0)), Mp placeV Value.string placeOk mg (M), X1, X2])] := H24.absorb (new := [Rw 9 1 p28 ((upN s l).length / 2) c29 (stV (upS (upN s l)))]) H31
                refine b_ret rfl rfl ?_
                refine l_of (s_val (v := .slice p28 ((upN s l).length / 2) c29) (wt0 rfl) rfl rfl (x_assign rfl rfl) ?_)
                refine g_nil ?_
                refine g_then ?_
                refine g_region ?_
                refine l_of (s_val (v := .int .i64 ((fs : Int))) (wt0 rfl) rfl rfl (x_move rfl rfl) ?_)
                refine l_of (s_val (v := .int .i64 (((fs / 2 : Nat) : Int))) (wt0 rfl) rfl rfl (x_bin rfl rfl rfl (b_quoN (a := fs) (b := 2) (by omega))) ?_)
                refine l_of (s_val (v := .int .i64 (((fs / 2 : Nat) : Int))) (wt0 rfl) rfl rfl (x_assign rfl rfl) ?_)
                refine g_nil ?_
                refine g_in ?_
                refine g_then ?_
                refine g_region ?_
                refine l_of (s_val (v := .int .i64 (((V0 + s : Nat) : Int))) (wt0 rfl) rfl rfl (x_move rfl rfl) ?_)
                refine l_of (s_val (v := .int .i64 (((V0 + (s + 1) : Nat) : Int))) (wt0 rfl) rfl rfl (x_bin rfl rfl rfl (b_addN (a := V0 + s) (b := 1) (by omega))) ?_)
                refine l_of (s_val (v := .int .i64 (((V0 + (s + 1) : Nat) : Int))) (wt0 rfl) rfl rfl (x_assign rfl rfl) ?_)
                refine g_nil ?_
                refine g_then ?_
                have hup : upN (s + 1) l = upS (upN s l) := upN_snoc s l
                have hlq : (upN s l).length / 2 = (upN (s + 1) l).length := by rw [hup, upS_len]
                have H32 : S wq30 [Ob tg (.cells #[.int .i64 ((n : Int)), .int .i64 (((tallN n) : Int)), .map (some mg)] 50 (0, 0)), Mp placeV Value.string placeOk mg (R2), X1, X2, Rw 9 1 p28 (upN (s + 1) l).length c29 (stV (upN (s + 1) l)), Old w (fps [Ob tg (.cells #[.int .i64 ((n : Int)), .int .i64 (((tallN n) : Int)), .map (some mg)] 50 (0, 0)), Mp placeV Value.string placeOk mg (M), X1, X2])] := by rw [← hlq, hup]; exact H31.takes [1, 2, 3, 4, 0, 6] (by decide)
                have hY2 : ∀ W, X1.ok W → X2.ok W → (Rw 9 1 p28 (upN (s + 1) l).length c29 (stV (upN (s + 1) l))).ok W → Reads W p28 (upN (s + 1) l).length c29 1 (stV (upN (s + 1) l)) := fun W _ _ h => reads_rw h
                rw [hlq]
                refine g_round (i := (s, fs, q1, d1, Y, R)) (s + 1, fs / 2, p28, c29, (Rw 9 1 p28 (upN (s + 1) l).length c29 (stV (upN (s + 1) l))), R2) ?_ ?_ ?_
                · exact ⟨rfl, rfl, rfl, rfl, rfl, rfl, rfl, rfl, trivial⟩
                · exact ⟨by omega, (by rw [hfs, Nat.div_div_eq_div_mul, Nat.pow_succ]), (fun _ => upN_len _ _ l r8.symm (by omega)), hY2, hR2, H32⟩
                · (try dsimp only); omega
            · skip
              have hss : (tallN l.length) + 1 = s := by omega
              subst hss
              refine g_cond_f rfl (decide_eq_false hb22) ?_
              refine g_exit ?_
              refine g_then_exit ?_
              refine g_then_exit ?_
              refine g_in_hit ?_
              refine g_then ?_
              refine g_seq ?_
              refine g_region ?_
              refine l_of (s_val (v := .int .i64 ((I0 : Int))) (wt0 rfl) rfl rfl (x_move rfl rfl) ?_)
              refine l_of (s_val (v := .slice p l.length c) (wt0 rfl) rfl rfl (x_move rfl rfl) ?_)
              refine l_of (s_val (v := .int .i64 ((l.length : Int))) (wt0 rfl) rfl rfl (x_lenl rfl rfl Tryz.underlying22) ?_)
              obtain ⟨b, hb⟩ : ∃ b, b = I0 / 2 ^ (tallN l.length) := ⟨_, rfl⟩
              have hbi : b ≤ I0 := by rw [hb]; exact Nat.div_le_self _ _
              have hlt1 : (upN (tallN l.length) l).length = 1 := by rw [upN_len _ (tallN l.length) l r8.symm (Nat.le_refl _), Nat.sub_self]
              have htop := low_top (v := V0) (i := I0) hlt1
              rw [← hb] at htop
              refine l_of (s_val (v := .int .i64 ((b : Int))) (wt0 rfl) rfl rfl (x_bin rfl rfl rfl (show Bin _ _ _ _ _ (.int .i64 (I0 : Int)) (.int .i64 (l.length : Int)) _ (.int .i64 (b : Int)) from by have := b_quoN (P := Tryz.prog) (t := 3) (xo := .tmp 101) (yo := .tmp 103) (w := wq20) (a := I0) (b := l.length) (by omega); rw [hb, r8]; exact this)) ?_)
              refine l_of (s_val (v := .int .i64 ((b : Int))) (wt0 rfl) rfl rfl (x_assign rfl rfl) ?_)
              refine g_nil ?_
              refine g_then ?_
              refine g_seq ?_
              refine g_seq ?_
              refine g_region ?_
              refine l_of (s_val (v := .int .i64 ((I0 : Int))) (wt0 rfl) rfl rfl (x_move rfl rfl) ?_)
              refine l_of (s_val (v := .slice p l.length c) (wt0 rfl) rfl rfl (x_move rfl rfl) ?_)
              refine l_of (s_val (v := .slice q u.length d) (wt0 rfl) rfl rfl (x_move rfl rfl) ?_)
              have hway35 := way_r I0 l u p q c d r8 (by omega) (by omega) hdl hdu hmu wq20 (hX _ (H21.at (k := 2) rfl) (H21.at (k := 3) rfl)) (hY _ (H21.at (k := 2) rfl) (H21.at (k := 3) rfl))
              rw [← hb] at hway35
              refine l_of (s_call (wt0 rfl) (x_call' rfl rfl cl53) (hway35) ?_)
              rintro _ wq36 ⟨p33, c34, rfl, H37⟩
              replace H37 : S wq36 [Rw 9 1 p33 (u.length + 1) c34 (stV (wayTo b ((upN (tallN l.length) l).getD 0 ⟨#[]⟩) u (u.length + 1))), Ob tg (.cells #[.int .i64 ((n : Int)), .int .i64 (((tallN n) : Int)), .map (some mg)] 50 (0, 0)), Mp placeV Value.string placeOk mg (R), X1, X2, Y, Old w (fps [Ob tg (.cells #[.int .i64 ((n : Int)), .int .i64 (((tallN n) : Int)), .map (some mg)] 50 (0, 0)), Mp placeV Value.string placeOk mg (M), X1, X2])] := H21.absorb (new := [Rw 9 1 p33 (u.length + 1) c34 (stV (wayTo b ((upN (tallN l.length) l).getD 0 ⟨#[]⟩) u (u.length + 1)))]) H37
              refine b_ret rfl rfl ?_
              refine l_of (s_val (v := .int .i64 (((u.length + 1) : Int))) (wt0 rfl) rfl rfl (x_lenl rfl rfl Tryz.underlying22) ?_)
              refine l_of (s_val (v := .int .i64 0) (wt0 rfl) rfl rfl (x_move rfl rfl) ?_)
              refine g_nil ?_
              refine g_then ?_
              refine g_weak [(0, .pointer (some ⟨tg, 0, none⟩)), (4, .slice q u.length d), (11, .int .i64 ((((V0 + (tallN l.length)) : Nat) : Int))), (17, .int .i64 ((b : Int))), (108, .slice p33 (u.length + 1) c34), (109, .int .i64 (((u.length + 1) : Int))), (110, .int .i64 0)] ⟨rfl, rfl, rfl, rfl, rfl, rfl, rfl, trivial⟩ ?_
              refine g_block ?_
              refine g_loop (ι := Nat × Nat × PM) (fun (k, bs, R3) => [(0, .pointer (some ⟨tg, 0, none⟩)), (4, .slice q u.length d), (11, .int .i64 ((((V0 + (tallN l.length)) : Nat) : Int))), (17, .int .i64 ((bs : Int))), (108, .slice p33 (u.length + 1) c34), (109, .int .i64 (((u.length + 1) : Int))), (110, .int .i64 ((k : Int)))]) (fun (k, bs, R3) wx => (k ≤ u.length + 1) ∧ (bs = b / 2 ^ k) ∧ (Rel n M (wayN (lowM V0 I0 l ((tallN l.length) + 1)) (V0 + (tallN l.length)) b ((upN (tallN l.length) l).getD 0 ⟨#[]⟩) u k) R3) ∧ S wx [Ob tg (.cells #[.int .i64 ((n : Int)), .int .i64 (((tallN n) : Int)), .map (some mg)] 50 (0, 0)), Mp placeV Value.string placeOk mg (R3), X1, X2, Rw 9 1 p33 (u.length + 1) c34 (stV (wayTo b ((upN (tallN l.length) l).getD 0 ⟨#[]⟩) u (u.length + 1))), Old w (fps [Ob tg (.cells #[.int .i64 ((n : Int)), .int .i64 (((tallN n) : Int)), .map (some mg)] 50 (0, 0)), Mp placeV Value.string placeOk mg (M), X1, X2])]) (fun (k, bs, R3) => u.length + 1 - k) (0, b, R) ⟨rfl, rfl, rfl, rfl, rfl, rfl, rfl, trivial⟩ ⟨Nat.zero_le _, (by rw [Nat.pow_zero, Nat.div_one]), hR, (H37.takes [1, 2, 3, 4, 0, 6] (by decide))⟩ ?_
              rintro ⟨k, bs, R3⟩ wq38 ⟨hk, hbs, hR3, H39⟩
              replace H39 : S wq38 [Ob tg (.cells #[.int .i64 ((n : Int)), .int .i64 (((tallN n) : Int)), .map (some mg)] 50 (0, 0)), Mp placeV Value.string placeOk mg (R3), X1, X2, Rw 9 1 p33 (u.length + 1) c34 (stV (wayTo b ((upN (tallN l.length) l).getD 0 ⟨#[]⟩) u (u.length + 1))), Old w (fps [Ob tg (.cells #[.int .i64 ((n : Int)), .int .i64 (((tallN n) : Int)), .map (some mg)] 50 (0, 0)), Mp placeV Value.string placeOk mg (M), X1, X2])] := H39
              refine g_weak [(0, .pointer (some ⟨tg, 0, none⟩)), (4, .slice q u.length d), (11, .int .i64 ((((V0 + (tallN l.length)) : Nat) : Int))), (17, .int .i64 ((bs : Int))), (108, .slice p33 (u.length + 1) c34), (109, .int .i64 (((u.length + 1) : Int))), (110, .int .i64 ((k : Int)))] ⟨rfl, rfl, rfl, rfl, rfl, rfl, rfl, trivial⟩ ?_
              have hbsi : bs ≤ b := by rw [hbs]; exact Nat.div_le_self _ _
              have hxb := xor_le bs
              refine g_seq ?_
              refine g_region ?_
              refine l_of (s_val (v := .bool (decide (((k : Int) : Int) < ((u.length + 1) : Int)))) (wt0 rfl) rfl rfl (x_bin rfl rfl rfl b_lss) ?_)
              refine g_nil ?_
              refine g_then ?_
              refine g_seq ?_
              by_cases hb40 : ((k : Int) : Int) < ((u.length + 1) : Int)
              · skip
                refine g_cond_t rfl (decide_eq_true hb40) ?_
                refine g_skip ?_
                refine g_then ?_
                refine g_seq ?_
                refine g_block ?_
                refine g_seq ?_
                refine g_region ?_
                refine l_of (s_val (v := .int .i64 ((k : Int))) (wt0 rfl) rfl rfl (x_move rfl rfl) ?_)
                refine l_of (s_val (v := .pointer ((p33).map fun q => q.add (k * 1))) (wt0 rfl) rfl rfl (x_idxR k (H39.rwReads (k := 4) rfl) rfl rfl rfl Tryz.underlying22 sz9 (by omega)) ?_)
                refine l_of (s_val (v := .string ((topS b ((upN (tallN l.length) l).getD 0 ⟨#[]⟩) u (k)))) (wt0 rfl) rfl rfl (x_loadR1 k (H39.rwReads (k := 4) rfl) (by omega) rfl rfl Tryz.underlying9 rfl (way_at (by omega))) ?_)
                refine l_of (s_val (v := .int .i64 ((k : Int))) (wt0 rfl) rfl rfl (x_assign rfl rfl) ?_)
                refine l_of (s_val (v := .string ((topS b ((upN (tallN l.length) l).getD 0 ⟨#[]⟩) u (k)))) (wt0 rfl) rfl rfl (x_assign rfl rfl) ?_)
                refine g_nil ?_
                refine g_then ?_
                refine g_seq ?_
                refine g_region ?_
                refine l_of (s_val (v := .pointer (some ⟨tg, 0, none⟩)) (wt0 rfl) rfl rfl (x_move rfl rfl) ?_)
                refine l_of (s_val (v := .int .i64 ((((V0 + (tallN l.length)) : Nat) : Int))) (wt0 rfl) rfl rfl (x_move rfl rfl) ?_)
                refine l_of (s_val (v := .int .i64 ((k : Int))) (wt0 rfl) rfl rfl (x_move rfl rfl) ?_)
                refine l_of (s_val (v := .int .i64 ((((V0 + (tallN l.length)) + k : Nat) : Int))) (wt0 rfl) rfl rfl (x_bin rfl rfl rfl (b_addN (a := (V0 + (tallN l.length))) (b := k) (by omega))) ?_)
                refine l_of (s_val (v := .int .i64 ((bs : Int))) (wt0 rfl) rfl rfl (x_move rfl rfl) ?_)
                refine l_of (s_val (v := .string ((topS b ((upN (tallN l.length) l).getD 0 ⟨#[]⟩) u (k)))) (wt0 rfl) rfl rfl (x_move rfl rfl) ?_)
                refine l_of (s_call (wt0 rfl) (x_call' rfl rfl cl51) (learn_r tg mg n (tallN n) (R3) ((V0 + (tallN l.length)) + k) bs (topS b ((upN (tallN l.length) l).getD 0 ⟨#[]⟩) u (k)) h1 (by omega) (by omega) (by omega) _ (H39.takes [0, 1] (by decide))) ?_)
                rintro _ wq41 ⟨rfl, H42⟩
                replace H42 : S wq41 [Ob tg (.cells #[.int .i64 ((n : Int)), .int .i64 (((tallN n) : Int)), .map (some mg)] 50 (0, 0)), Mp placeV Value.string placeOk mg (learnM n R3 ((V0 + (tallN l.length)) + k) bs (topS b ((upN (tallN l.length) l).getD 0 ⟨#[]⟩) u (k))), X1, X2, Rw 9 1 p33 (u.length + 1) c34 (stV (wayTo b ((upN (tallN l.length) l).getD 0 ⟨#[]⟩) u (u.length + 1))), Old w (fps [Ob tg (.cells #[.int .i64 ((n : Int)), .int .i64 (((tallN n) : Int)), .map (some mg)] 50 (0, 0)), Mp placeV Value.string placeOk mg (M), X1, X2])] := H39.absorbI (new := [Ob tg (.cells #[.int .i64 ((n : Int)), .int .i64 (((tallN n) : Int)), .map (some mg)] 50 (0, 0)), Mp placeV Value.string placeOk mg (learnM n R3 ((V0 + (tallN l.length)) + k) bs (topS b ((upN (tallN l.length) l).getD 0 ⟨#[]⟩) u (k)))]) [0, 1] H42
                refine b_ret rfl rfl ?_
                refine g_nil ?_
                refine g_then ?_
                refine g_weak [(0, .pointer (some ⟨tg, 0, none⟩)), (4, .slice q u.length d), (11, .int .i64 ((((V0 + (tallN l.length)) : Nat) : Int))), (17, .int .i64 ((bs : Int))), (18, .int .i64 ((k : Int))), (108, .slice p33 (u.length + 1) c34), (109, .int .i64 (((u.length + 1) : Int))), (110, .int .i64 ((k : Int)))] ⟨rfl, rfl, rfl, rfl, rfl, rfl, rfl, rfl, trivial⟩ ?_
                refine g_seq ?_
                refine g_seq ?_
                refine g_region ?_
                refine l_of (s_val (v := .int .i64 ((k : Int))) (wt0 rfl) rfl rfl (x_move rfl rfl) ?_)
                refine l_of (s_val (v := .slice q u.length d) (wt0 rfl) rfl rfl (x_move rfl rfl) ?_)
                refine l_of (s_val (v := .int .i64 ((u.length : Int))) (wt0 rfl) rfl rfl (x_lenl rfl rfl Tryz.underlying22) ?_)
                refine l_of (s_val (v := .bool (decide (((k : Int) : Int) < (u.length : Int)))) (wt0 rfl) rfl rfl (x_bin rfl rfl rfl b_lss) ?_)
                refine g_nil ?_
                refine g_then ?_
                by_cases hb43 : ((k : Int) : Int) < (u.length : Int)
                · skip
                  have hqs : ∃ a, q = some a := ((hY _ (H42.at (k := 2) rfl) (H42.at (k := 3) rfl)).2.2 (by omega)).imp fun _ h => h.1
                  refine g_cond_t rfl (decide_eq_true hb43) ?_
                  refine g_any [] (fun wx => S wx [X1, X2, Old w (fps [Ob tg (.cells #[.int .i64 ((n : Int)), .int .i64 (((tallN n) : Int)), .map (some mg)] 50 (0, 0)), Mp placeV Value.string placeOk mg (M), X1, X2])]) [] (by kernel_rfl) H42 (fun wq44 H45 => ?_)
                  refine a_take (v := .pointer (some ⟨tg, 0, none⟩)) 0 rfl (wt0 rfl) rfl rfl rfl (by kernel_rfl) (by kernel_rfl) (by kernel_rfl) (by kernel_rfl) (H45.mask [false, false, true, true, false, true]) (fun wx H => x_move rfl rfl) ?_
                  refine a_take (v := .int .i64 ((((V0 + (tallN l.length)) : Nat) : Int))) 1 rfl (wt0 rfl) rfl rfl rfl (by kernel_rfl) (by kernel_rfl) (by kernel_rfl) (by kernel_rfl) (H45.mask [false, false, true, true, false, true]) (fun wx H => x_move rfl rfl) ?_
                  refine a_take (v := .int .i64 ((k : Int))) 2 rfl (wt0 rfl) rfl rfl rfl (by kernel_rfl) (by kernel_rfl) (by kernel_rfl) (by kernel_rfl) (H45.mask [false, false, true, true, false, true]) (fun wx H => x_move rfl rfl) ?_
                  refine a_take (v := .int .i64 ((((V0 + (tallN l.length)) + k : Nat) : Int))) 3 rfl (wt0 rfl) rfl rfl rfl (by kernel_rfl) (by kernel_rfl) (by kernel_rfl) (by kernel_rfl) (H45.mask [false, false, true, true, false, true]) (fun wx H => x_bin rfl rfl rfl (b_addN (a := (V0 + (tallN l.length))) (b := k) (by omega))) ?_
                  refine a_take (v := .int .i64 ((bs : Int))) 4 rfl (wt0 rfl) rfl rfl rfl (by kernel_rfl) (by kernel_rfl) (by kernel_rfl) (by kernel_rfl) (H45.mask [false, false, true, true, false, true]) (fun wx H => x_move rfl rfl) ?_
                  refine a_take (v := .slice q u.length d) 6 rfl (wt0 rfl) rfl rfl rfl (by kernel_rfl) (by kernel_rfl) (by kernel_rfl) (by kernel_rfl) (H45.mask [false, false, true, true, false, true]) (fun wx H => x_move rfl rfl) ?_
                  refine a_take (v := .int .i64 ((k : Int))) 7 rfl (wt0 rfl) rfl rfl rfl (by kernel_rfl) (by kernel_rfl) (by kernel_rfl) (by kernel_rfl) (H45.mask [false, false, true, true, false, true]) (fun wx H => x_move rfl rfl) ?_
                  refine a_take (v := .pointer ((q).map fun q => q.add (k * 1))) 8 rfl (wt0 rfl) rfl rfl rfl (by kernel_rfl) (by kernel_rfl) (by kernel_rfl) (by kernel_rfl) (H45.mask [false, false, true, true, false, true]) (fun wx H => x_idxP k (hqs) rfl rfl rfl Tryz.underlying22 sz9 (by omega)) ?_
                  refine a_take (v := .string ((u.getD (k) ⟨#[]⟩))) 9 rfl (wt0 rfl) rfl rfl rfl (by kernel_rfl) (by kernel_rfl) (by kernel_rfl) (by kernel_rfl) (H45.mask [false, false, true, true, false, true]) (fun wx H => x_loadR1 k (hY _ (H.at (k := 0) rfl) (H.at (k := 1) rfl)) (by omega) rfl rfl Tryz.underlying9 rfl (stV_at (by omega))) ?_
                  refine a_one (i := 5) (by kernel_rfl) rfl ?_
                  refine s_call (wt0 rfl) (x_call' rfl rfl cl54) (sib_x _ (by omega) _) ?_
                  rintro _ wq46 ⟨rfl, H47⟩
                  replace H47 : S wq46 [Ob tg (.cells #[.int .i64 ((n : Int)), .int .i64 (((tallN n) : Int)), .map (some mg)] 50 (0, 0)), Mp placeV Value.string placeOk mg (learnM n R3 ((V0 + (tallN l.length)) + k) bs (topS b ((upN (tallN l.length) l).getD 0 ⟨#[]⟩) u (k))), X1, X2, Rw 9 1 p33 (u.length + 1) c34 (stV (wayTo b ((upN (tallN l.length) l).getD 0 ⟨#[]⟩) u (u.length + 1))), Old w (fps [Ob tg (.cells #[.int .i64 ((n : Int)), .int .i64 (((tallN n) : Int)), .map (some mg)] 50 (0, 0)), Mp placeV Value.string placeOk mg (M), X1, X2])] := H45.absorb (new := []) H47
                  refine b_ret rfl rfl ?_
                  refine a_k (H47.mask [false, false, true, true, false, true]) ?_
                  refine a_one (i := 10) (by kernel_rfl) rfl ?_
                  refine s_call (wt0 rfl) (x_call' rfl rfl cl51) (learn_r tg mg n (tallN n) (learnM n R3 ((V0 + (tallN l.length)) + k) bs (topS b ((upN (tallN l.length) l).getD 0 ⟨#[]⟩) u (k))) ((V0 + (tallN l.length)) + k) (bs ^^^ 1) (u.getD (k) ⟨#[]⟩) h1 (by omega) (by omega) (by omega) _ (H47.takes [0, 1] (by decide))) ?_
                  rintro _ wq48 ⟨rfl, H49⟩
                  replace H49 : S wq48 [Ob tg (.cells #[.int .i64 ((n : Int)), .int .i64 (((tallN n) : Int)), .map (some mg)] 50 (0, 0)), Mp placeV Value.string placeOk mg (learnM n (learnM n R3 ((V0 + (tallN l.length)) + k) bs (topS b ((upN (tallN l.length) l).getD 0 ⟨#[]⟩) u (k))) ((V0 + (tallN l.length)) + k) (bs ^^^ 1) (u.getD (k) ⟨#[]⟩)), X1, X2, Rw 9 1 p33 (u.length + 1) c34 (stV (wayTo b ((upN (tallN l.length) l).getD 0 ⟨#[]⟩) u (u.length + 1))), Old w (fps [Ob tg (.cells #[.int .i64 ((n : Int)), .int .i64 (((tallN n) : Int)), .map (some mg)] 50 (0, 0)), Mp placeV Value.string placeOk mg (M), X1, X2])] := H47.absorbI (new := [Ob tg (.cells #[.int .i64 ((n : Int)), .int .i64 (((tallN n) : Int)), .map (some mg)] 50 (0, 0)), Mp placeV Value.string placeOk mg (learnM n (learnM n R3 ((V0 + (tallN l.length)) + k) bs (topS b ((upN (tallN l.length) l).getD 0 ⟨#[]⟩) u (k))) ((V0 + (tallN l.length)) + k) (bs ^^^ 1) (u.getD (k) ⟨#[]⟩))]) [0, 1] H49
                  refine b_ret rfl rfl ?_
                  refine a_k (H49.mask [false, false, true, true, false, true]) ?_
                  refine a_done (by kernel_rfl) ?_
                  refine g_then ?_
                  refine g_weak [(0, .pointer (some ⟨tg, 0, none⟩)), (4, .slice q u.length d), (11, .int .i64 ((((V0 + (tallN l.length)) : Nat) : Int))), (17, .int .i64 ((bs : Int))), (108, .slice p33 (u.length + 1) c34), (109, .int .i64 (((u.length + 1) : Int))), (110, .int .i64 ((k : Int)))] ⟨rfl, rfl, rfl, rfl, rfl, rfl, rfl, trivial⟩ ?_
                  refine g_region ?_
                  refine l_of (s_val (v := .int .i64 ((bs : Int))) (wt0 rfl) rfl rfl (x_move rfl rfl) ?_)
                  refine l_of (s_val (v := .int .i64 (((bs / 2 : Nat) : Int))) (wt0 rfl) rfl rfl (x_bin rfl rfl rfl (b_quoN (a := bs) (b := 2) (by omega))) ?_)
                  refine l_of (s_val (v := .int .i64 (((bs / 2 : Nat) : Int))) (wt0 rfl) rfl rfl (x_assign rfl rfl) ?_)
                  refine g_nil ?_
                  refine g_in ?_
                  refine g_then ?_
                  refine g_region ?_
                  refine l_of (s_val (v := .int .i64 ((k : Int) + 1)) (wt0 rfl) rfl rfl (x_bin rfl rfl rfl (b_add (w64 (by omega)))) ?_)
                  refine l_of (s_val (v := .int .i64 ((k : Int) + 1)) (wt0 rfl) rfl rfl (x_move rfl rfl) ?_)
                  refine g_nil ?_
                  refine g_then ?_
                  refine g_round (i := (k, bs, R3)) (k + 1, bs / 2, (learnM n (learnM n R3 ((V0 + (tallN l.length)) + k) bs (topS b ((upN (tallN l.length) l).getD 0 ⟨#[]⟩) u (k))) ((V0 + (tallN l.length)) + k) (bs ^^^ 1) (u.getD (k) ⟨#[]⟩))) ?_ ?_ ?_
                  · exact ⟨rfl, rfl, rfl, rfl, rfl, rfl, rfl, trivial⟩
                  · exact ⟨by omega, (by rw [hbs, Nat.div_div_eq_div_mul, Nat.pow_succ]), (by rw [hbs]; exact way_next1 htop hR3 (by omega)), (H49.takes [0, 1, 2, 3, 4, 5] (by decide))⟩
                  · (try dsimp only); omega
                · skip
                  refine g_cond_f rfl (decide_eq_false hb43) ?_
                  refine g_skip ?_
                  refine g_then ?_
                  refine g_region ?_
                  refine l_of (s_val (v := .int .i64 ((bs : Int))) (wt0 rfl) rfl rfl (x_move rfl rfl) ?_)
                  refine l_of (s_val (v := .int .i64 (((bs / 2 : Nat) : Int))) (wt0 rfl) rfl rfl (x_bin rfl rfl rfl (b_quoN (a := bs) (b := 2) (by omega))) ?_)
                  refine l_of (s_val (v := .int .i64 (((bs / 2 : Nat) : Int))) (wt0 rfl) rfl rfl (x_assign rfl rfl) ?_)
                  refine g_nil ?_
                  refine g_in ?_
                  refine g_then ?_
                  refine g_region ?_
                  refine l_of (s_val (v := .int .i64 ((k : Int) + 1)) (wt0 rfl) rfl rfl (x_bin rfl rfl rfl (b_add (w64 (by omega)))) ?_)
                  refine l_of (s_val (v := .int .i64 ((k : Int) + 1)) (wt0 rfl) rfl rfl (x_move rfl rfl) ?_)
                  refine g_nil ?_
                  refine g_then ?_
                  refine g_round (i := (k, bs, R3)) (k + 1, bs / 2, (learnM n R3 ((V0 + (tallN l.length)) + k) bs (topS b ((upN (tallN l.length) l).getD 0 ⟨#[]⟩) u (k)))) ?_ ?_ ?_
                  · exact ⟨rfl, rfl, rfl, rfl, rfl, rfl, rfl, trivial⟩
                  · exact ⟨by omega, (by rw [hbs, Nat.div_div_eq_div_mul, Nat.pow_succ]), (by rw [hbs]; exact way_next2 htop hR3 (by omega)), (H42.takes [0, 1, 2, 3, 4, 5] (by decide))⟩
                  · (try dsimp only); omega
              · skip
                have hkk : k = u.length + 1 := by omega
                subst hkk
                refine g_cond_f rfl (decide_eq_false hb40) ?_
                refine g_exit ?_
                refine g_then_exit ?_
                refine g_then_exit ?_
                refine g_in_hit ?_
                refine g_then ?_
                refine g_seq ?_
                refine g_region ?_
                refine l_of (s_val (v := .int .i64 0) (wt0 rfl) rfl rfl (x_assign rfl rfl) ?_)
                refine g_nil ?_
                refine g_then ?_
                refine g_ret ?_
                refine fin_ret [.tmp 10] [.int .i64 0] rfl ⟨rfl, trivial⟩ ?_
                exact ⟨_, fun _ => (by have hw := hR3; unfold wayN at hw; rw [if_neg (by omega), hb] at hw; exact hw), fun hq => absurd hae hq, by rw [hae]; rfl, H39.takes [0, 1, 2, 3, 5] (by decide)⟩
          · skip
            refine g_cond_t rfl (nt hb18) ?_
            refine g_seq ?_
            refine g_region ?_
            refine l_of (s_val (v := .int .i64 13) (wt0 rfl) rfl rfl (x_assign rfl rfl) ?_)
            refine g_nil ?_
            refine g_then ?_
            refine g_ret ?_
            refine g_in_ret ?_
            refine g_then_ret ?_
            refine fin_ret [.tmp 10] [.int .i64 13] rfl ⟨rfl, trivial⟩ ?_
            have hae : addE (tallN n) root (V0 : Int) (I0 : Int) l u = 13 := add_13 hdl hdu hrr (by omega) (by rw [← chk_add hdl hdu hsz h1 hn]; exact hb18)
            exact ⟨M, fun hq => by omega, fun _ => rfl, by rw [hae]; rfl, H17.takes [0, 1, 2, 3, 4] (by decide)⟩
        · skip
          refine g_cond_t rfl (nt hb13) ?_
          refine g_seq ?_
          refine g_region ?_
          refine l_of (s_val (v := .int .i64 11) (wt0 rfl) rfl rfl (x_assign rfl rfl) ?_)
          refine g_nil ?_
          refine g_then ?_
          refine g_ret ?_
          refine g_in_ret ?_
          refine g_then_ret ?_
          refine fin_ret [.tmp 10] [.int .i64 11] rfl ⟨rfl, trivial⟩ ?_
          have hae : addE (tallN n) root (V0 : Int) (I0 : Int) l u = 11 := add_11 hdl hdu hrr (by omega)
          exact ⟨M, fun hq => by omega, fun _ => rfl, by rw [hae]; rfl, H12.takes [0, 1, 2, 3, 4] (by decide)⟩
      · skip
        refine g_cond_t rfl (neg_of hb9) ?_
        refine g_seq ?_
        refine g_region ?_
        refine l_of (s_val (v := .int .i64 7) (wt0 rfl) rfl rfl (x_assign rfl rfl) ?_)
        refine g_nil ?_
        refine g_then ?_
        refine g_ret ?_
        refine g_then_ret ?_
        refine fin_ret [.tmp 10] [.int .i64 7] rfl ⟨rfl, trivial⟩ ?_
        have hae : addE (tallN n) root v i l u = 7 := add_7 hdl hdu hb9
        exact ⟨M, fun hq => by omega, fun _ => rfl, by rw [hae]; rfl, H8.takes [0, 1, 2, 3, 4] (by decide)⟩
    · skip
      refine g_cond_t rfl (neg_of hb6) ?_
      refine g_seq ?_
      refine g_region ?_
      refine l_of (s_val (v := .int .i64 1) (wt0 rfl) rfl rfl (x_assign rfl rfl) ?_)
      refine g_nil ?_
      refine g_then ?_
      refine g_weak [(10, .int .i64 1)] ⟨rfl, trivial⟩ ?_
      refine g_ret ?_
      refine g_then_ret ?_
      refine fin_ret [.tmp 10] [.int .i64 1] rfl ⟨rfl, trivial⟩ ?_
      have hae : addE (tallN n) root v i l u = 1 := add_1 (fun hq => no_has hb6 hq.2)
      exact ⟨M, fun hq => by omega, fun _ => rfl, by rw [hae]; rfl, H5.takes [0, 1, 2, 3, 4] (by decide)⟩
  · skip
    refine l_of (s_not (wn1 rfl rfl rfl rfl (neg_of hb3)) rfl rfl ?_)
    refine l_of (s_not (wn1 rfl rfl rfl rfl (neg_of hb3)) rfl rfl ?_)
    refine l_of (s_not (wn1 rfl rfl rfl rfl (neg_of hb3)) rfl rfl ?_)
    refine l_of (s_val (v := .bool true) (wt0 rfl) rfl rfl (x_pick_t rfl rfl (neg_of hb3) rfl) ?_)
    refine g_nil ?_
    refine g_then ?_
    refine g_cond_t rfl rfl ?_
    refine g_seq ?_
    refine g_region ?_
    refine l_of (s_val (v := .int .i64 1) (wt0 rfl) rfl rfl (x_assign rfl rfl) ?_)
    refine g_nil ?_
    refine g_then ?_
    refine g_weak [(10, .int .i64 1)] ⟨rfl, trivial⟩ ?_
    refine g_ret ?_
    refine g_then_ret ?_
    refine fin_ret [.tmp 10] [.int .i64 1] rfl ⟨rfl, trivial⟩ ?_
    have hae : addE (tallN n) root v i l u = 1 := add_1 (fun hq => no_has hb3 hq.1)
    exact ⟨M, fun hq => by omega, fun _ => rfl, by rw [hae]; rfl, H2.takes [0, 1, 2, 3, 4] (by decide)⟩
end Go.Proofs.YtlajgickimgigaaGreat
