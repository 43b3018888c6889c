import Derived.Test.YtlajgickimgigaaGreatWB
set_option linter.unusedSimpArgs false
set_option linter.unusedVariables false
namespace Go.Proofs.YtlajgickimgigaaGreat
open Go.RowKit

set_option maxRecDepth 20000 in
set_option maxHeartbeats 4000000 in
set_option maxRecDepth 20000 in
set_option maxHeartbeats 4000000 in
theorem give_r (tg mg n h : Nat) (M : PM) (v i c u : Int) (h1 : 1 ≤ n) (hn : n ≤ 4096) (hh : h ≤ 12) (w : World) (HS : S w [Ob tg (.cells #[.int .i64 ((n : Int)), .int .i64 ((h : Int)), .map (some mg)] 50 (0, 0)), Mp placeV Value.string placeOk mg (M)]) : Calls Tryz.prog 20 #[.pointer (some ⟨tg, 0, none⟩), .int .i64 v, .int .i64 i, .int .i64 c, .int .i64 u] w fun e w' => ∃ p1 c1 p2 c2, e = .returned (.tuple #[.slice p1 (giveS h (fun a b => M (a, b)) v i c u).1.length c1, .slice p2 (giveS h (fun a b => M (a, b)) v i c u).2.1.length c2, .int .i64 (giveS h (fun a b => M (a, b)) v i c u).2.2]) ∧ S w' ([Rw 9 1 p1 (giveS h (fun a b => M (a, b)) v i c u).1.length c1 (stV (giveS h (fun a b => M (a, b)) v i c u).1), Rw 9 1 p2 (giveS h (fun a b => M (a, b)) v i c u).2.1.length c2 (stV (giveS h (fun a b => M (a, b)) v i c u).2.1), Ob tg (.cells #[.int .i64 ((n : Int)), .int .i64 ((h : Int)), .map (some mg)] 50 (0, 0)), Mp placeV Value.string placeOk mg (M)] ++ [Old w (fps [Ob tg (.cells #[.int .i64 ((n : Int)), .int .i64 ((h : Int)), .map (some mg)] 50 (0, 0)), Mp placeV Value.string placeOk mg (M)])]) := by
  have H00 := HS.beginI
  have H0 : S w ([Ob tg (.cells #[.int .i64 ((n : Int)), .int .i64 ((h : Int)), .map (some mg)] 50 (0, 0)), Mp placeV Value.string placeOk mg (M), Old w (fps [Ob tg (.cells #[.int .i64 ((n : Int)), .int .i64 ((h : Int)), .map (some mg)] 50 (0, 0)), Mp placeV Value.string placeOk mg (M)])]) := H00
  refine enter 102 Tryz.func20 rfl rfl rfl ?_
  refine g_weak [(0, .pointer (some ⟨tg, 0, none⟩)), (1, .int .i64 v), (2, .int .i64 i), (3, .int .i64 c), (4, .int .i64 u)] ⟨rfl, rfl, rfl, rfl, rfl, trivial⟩ ?_
  refine g_seq ?_
  refine g_region ?_
  refine l_of (s_val (v := .slice none 0 0) (wt0 rfl) rfl rfl (x_assign rfl rfl) ?_)
  refine l_of (s_val (v := .slice none 0 0) (wt0 rfl) rfl rfl (x_assign rfl rfl) ?_)
  refine l_of (s_val (v := .int .i64 0) (wt0 rfl) rfl rfl (x_assign rfl rfl) ?_)
  refine g_nil ?_
  refine g_then ?_
  refine g_seq ?_
  refine g_seq ?_
  refine g_region ?_
  refine l_of (s_val (v := .pointer (some ⟨tg, 0, none⟩)) (wt0 rfl) rfl rfl (x_move rfl rfl) ?_)
  refine l_of (s_val (v := .pointer (some ⟨tg, 0, none⟩)) (wt0 rfl) rfl rfl (x_nilCheck rfl rfl) ?_)
  refine l_of (s_val (v := .pointer (some ⟨tg, 1, none⟩)) (wt0 rfl) rfl rfl (x_fieldAddr rfl rfl fo50_1 rfl) ?_)
  refine l_of (s_val (v := .int .i64 ((h : Int))) (wt0 rfl) rfl rfl (x_load1 H0 0 rfl rfl Tryz.underlying3 rfl rfl rfl) ?_)
  refine l_of (s_val (v := .int .i64 v) (wt0 rfl) rfl rfl (x_move rfl rfl) ?_)
  refine l_of (s_val (v := .int .i64 i) (wt0 rfl) rfl rfl (x_move rfl rfl) ?_)
  refine l_of (s_val (v := .int .i64 c) (wt0 rfl) rfl rfl (x_move rfl rfl) ?_)
  refine l_of (s_call (wt0 rfl) (x_call' rfl rfl cl42) (right_r h v i c (by omega) _) ?_)
  rintro _ wq1 ⟨rfl, H2⟩
  replace H2 : S wq1 [Ob tg (.cells #[.int .i64 ((n : Int)), .int .i64 ((h : Int)), .map (some mg)] 50 (0, 0)), Mp placeV Value.string placeOk mg (M), Old w (fps [Ob tg (.cells #[.int .i64 ((n : Int)), .int .i64 ((h : Int)), .map (some mg)] 50 (0, 0)), Mp placeV Value.string placeOk mg (M)])] := H0.absorb (new := []) H2
  refine b_ret rfl rfl ?_
  refine l_of (s_val (v := .bool (!((rightB h v i c)))) (wt0 rfl) rfl rfl (x_not (b := (rightB h v i c)) rfl rfl) ?_)
  refine g_nil ?_
  refine g_then ?_
  rcases Bool.eq_false_or_eq_true ((rightB h v i c)) with hb3 | hb3
  · skip
    obtain ⟨a1, a2, a3⟩ := right_nats hh hb3
    obtain ⟨V0, rfl⟩ := nat_of a1
    obtain ⟨I0, rfl⟩ := nat_of a2
    obtain ⟨C0, rfl⟩ := nat_of a3
    obtain ⟨r1, r2, r3, r4, r5, r6, r7, r8, r9, r10⟩ := room hh hb3
    have r11 : I0 / C0 ≤ I0 := Nat.div_le_self _ _
    refine g_cond_f rfl (neg_of hb3) ?_
    refine g_skip ?_
    refine g_then ?_
    refine g_seq ?_
    refine g_region ?_
    refine l_of (s_val (v := .int .i64 ((V0 : Int))) (wt0 rfl) rfl rfl (x_move rfl rfl) ?_)
    refine l_of (s_val (v := .int .i64 ((C0 : Int))) (wt0 rfl) rfl rfl (x_move rfl rfl) ?_)
    have hpw4 := power_r (C0 : Int) wq1
    rw [r9] at hpw4
    refine l_of (s_call (wt0 rfl) (x_call' rfl rfl cl44) (hpw4) ?_)
    rintro _ wq5 ⟨rfl, H6⟩
    replace H6 : S wq5 [Ob tg (.cells #[.int .i64 ((n : Int)), .int .i64 ((h : Int)), .map (some mg)] 50 (0, 0)), Mp placeV Value.string placeOk mg (M), Old w (fps [Ob tg (.cells #[.int .i64 ((n : Int)), .int .i64 ((h : Int)), .map (some mg)] 50 (0, 0)), Mp placeV Value.string placeOk mg (M)])] := H2.absorb (new := []) H6
    refine b_ret rfl rfl ?_
    refine l_of (s_val (v := .int .i64 ((((V0 + tallN C0) : Nat) : Int))) (wt0 rfl) rfl rfl (x_bin rfl rfl rfl (b_addN (a := V0) (b := tallN C0) (by omega))) ?_)
    refine l_of (s_val (v := .int .i64 ((((V0 + tallN C0) : Nat) : Int))) (wt0 rfl) rfl rfl (x_assign rfl rfl) ?_)
    refine g_nil ?_
    refine g_then ?_
    refine g_weak [(0, .pointer (some ⟨tg, 0, none⟩)), (1, .int .i64 ((V0 : Int))), (2, .int .i64 ((I0 : Int))), (3, .int .i64 ((C0 : Int))), (4, .int .i64 u), (10, .slice none 0 0), (11, .slice none 0 0), (13, .int .i64 ((((V0 + tallN C0) : Nat) : Int)))] ⟨rfl, rfl, rfl, rfl, rfl, rfl, rfl, rfl, trivial⟩ ?_
    refine g_seq ?_
    refine g_seq ?_
    refine g_region ?_
    refine l_of (s_val (v := .int .i64 u) (wt0 rfl) rfl rfl (x_move rfl rfl) ?_)
    refine l_of (s_val (v := .bool (decide ((u : Int) < 0))) (wt0 rfl) rfl rfl (x_bin rfl rfl rfl b_lss) ?_)
    refine l_of (s_val (v := .bool (decide ((u : Int) < 0))) (wt0 rfl) rfl rfl (x_move rfl rfl) ?_)
    by_cases hb7 : (u : Int) < 0
    · skip
      refine l_of (s_not (wn1 rfl rfl rfl rfl (decide_eq_true hb7)) rfl rfl ?_)
      refine l_of (s_not (wn1 rfl rfl rfl rfl (decide_eq_true hb7)) rfl rfl ?_)
      refine l_of (s_not (wn1 rfl rfl rfl rfl (decide_eq_true hb7)) rfl rfl ?_)
      refine l_of (s_not (wn1 rfl rfl rfl rfl (decide_eq_true hb7)) rfl rfl ?_)
      refine l_of (s_not (wn1 rfl rfl rfl rfl (decide_eq_true hb7)) rfl rfl ?_)
      refine l_of (s_not (wn1 rfl rfl rfl rfl (decide_eq_true hb7)) rfl rfl ?_)
      refine l_of (s_not (wn1 rfl rfl rfl rfl (decide_eq_true hb7)) rfl rfl ?_)
      refine l_of (s_not (wn1 rfl rfl rfl rfl (decide_eq_true hb7)) rfl rfl ?_)
      refine l_of (s_val (v := .bool true) (wt0 rfl) rfl rfl (x_pick_t rfl rfl (decide_eq_true hb7) rfl) ?_)
      refine g_nil ?_
      refine g_then ?_
      refine g_cond_t rfl rfl ?_
      refine g_seq ?_
      refine g_region ?_
      refine l_of (s_val (v := .slice none 0 0) (wt0 rfl) rfl rfl (x_assign rfl rfl) ?_)
      refine l_of (s_val (v := .slice none 0 0) (wt0 rfl) rfl rfl (x_assign rfl rfl) ?_)
      refine l_of (s_val (v := .int .i64 7) (wt0 rfl) rfl rfl (x_assign rfl rfl) ?_)
      refine g_nil ?_
      refine g_then ?_
      refine g_weak [(10, .slice none 0 0), (11, .slice none 0 0), (12, .int .i64 7)] ⟨rfl, rfl, rfl, trivial⟩ ?_
      refine g_ret ?_
      refine g_then_ret ?_
      refine fin_ret [.tmp 10, .tmp 11, .tmp 12] [.slice none 0 0, .slice none 0 0, .int .i64 7] rfl ⟨rfl, rfl, rfl, trivial⟩ ?_
      rw [give_no (fun hq => by have h3 := hq.2.2; have h2 := hq.2.1; rw [Int.toNat_natCast] at h3; omega)]
      exact ⟨none, 0, none, 0, rfl, ((H6.takes [0, 1, 2] (by decide)).nilRw 9 1).nilRw 9 1⟩
    · skip
      refine l_of (s_val (v := .int .i64 u) (wt1 rfl rfl rfl rfl (decide_eq_false hb7)) rfl rfl (x_move rfl rfl) ?_)
      refine l_of (s_val (v := .pointer (some ⟨tg, 0, none⟩)) (wt1 rfl rfl rfl rfl (decide_eq_false hb7)) rfl rfl (x_move rfl rfl) ?_)
      refine l_of (s_val (v := .pointer (some ⟨tg, 0, none⟩)) (wt1 rfl rfl rfl rfl (decide_eq_false hb7)) rfl rfl (x_nilCheck rfl rfl) ?_)
      refine l_of (s_val (v := .pointer (some ⟨tg, 1, none⟩)) (wt1 rfl rfl rfl rfl (decide_eq_false hb7)) rfl rfl (x_fieldAddr rfl rfl fo50_1 rfl) ?_)
      refine l_of (s_val (v := .int .i64 ((h : Int))) (wt1 rfl rfl rfl rfl (decide_eq_false hb7)) rfl rfl (x_load1 H6 0 rfl rfl Tryz.underlying3 rfl rfl rfl) ?_)
      refine l_of (s_val (v := .int .i64 ((((V0 + tallN C0) : Nat) : Int))) (wt1 rfl rfl rfl rfl (decide_eq_false hb7)) rfl rfl (x_move rfl rfl) ?_)
      refine l_of (s_val (v := .int .i64 ((h : Int) - (((V0 + tallN C0) : Nat) : Int))) (wt1 rfl rfl rfl rfl (decide_eq_false hb7)) rfl rfl (x_bin rfl rfl rfl (b_sub (w64 (by omega)))) ?_)
      refine l_of (s_val (v := .bool (decide (((h : Int) - (((V0 + tallN C0) : Nat) : Int) : Int) < u))) (wt1 rfl rfl rfl rfl (decide_eq_false hb7)) rfl rfl (x_bin rfl rfl rfl b_gtr) ?_)
      refine l_of (s_val (v := .bool (decide (((h : Int) - (((V0 + tallN C0) : Nat) : Int) : Int) < u))) (wt0 rfl) rfl rfl (x_pick_f rfl rfl (decide_eq_false hb7) rfl) ?_)
      refine g_nil ?_
      refine g_then ?_
      by_cases hb8 : ((h : Int) - (((V0 + tallN C0) : Nat) : Int) : Int) < u
      · skip
        refine g_cond_t rfl (decide_eq_true hb8) ?_
        refine g_seq ?_
        refine g_region ?_
        refine l_of (s_val (v := .slice none 0 0) (wt0 rfl) rfl rfl (x_assign rfl rfl) ?_)
        refine l_of (s_val (v := .slice none 0 0) (wt0 rfl) rfl rfl (x_assign rfl rfl) ?_)
        refine l_of (s_val (v := .int .i64 7) (wt0 rfl) rfl rfl (x_assign rfl rfl) ?_)
        refine g_nil ?_
        refine g_then ?_
        refine g_weak [(10, .slice none 0 0), (11, .slice none 0 0), (12, .int .i64 7)] ⟨rfl, rfl, rfl, trivial⟩ ?_
        refine g_ret ?_
        refine g_then_ret ?_
        refine fin_ret [.tmp 10, .tmp 11, .tmp 12] [.slice none 0 0, .slice none 0 0, .int .i64 7] rfl ⟨rfl, rfl, rfl, trivial⟩ ?_
        rw [give_no (fun hq => by have h3 := hq.2.2; have h2 := hq.2.1; rw [Int.toNat_natCast] at h3; omega)]
        exact ⟨none, 0, none, 0, rfl, ((H6.takes [0, 1, 2] (by decide)).nilRw 9 1).nilRw 9 1⟩
      · skip
        obtain ⟨U0, rfl⟩ := nat_of (show 0 ≤ u by omega)
        have hu0 : (V0 + tallN C0) + U0 ≤ h := by omega
        have hgo : GiveOk h (V0 : Int) (I0 : Int) (C0 : Int) (U0 : Int) := giveOk_n hb3 hu0
        refine g_cond_f rfl (decide_eq_false hb8) ?_
        refine g_skip ?_
        refine g_then ?_
        refine g_weak [(0, .pointer (some ⟨tg, 0, none⟩)), (1, .int .i64 ((V0 : Int))), (2, .int .i64 ((I0 : Int))), (3, .int .i64 ((C0 : Int))), (4, .int .i64 ((U0 : Int))), (10, .slice none 0 0), (11, .slice none 0 0), (13, .int .i64 ((((V0 + tallN C0) : Nat) : Int)))] ⟨rfl, rfl, rfl, rfl, rfl, rfl, rfl, rfl, trivial⟩ ?_
        refine g_seq ?_
        refine g_seq ?_
        refine g_region ?_
        refine l_of (s_val (v := .int .i64 ((C0 : Int))) (wt0 rfl) rfl rfl (x_move rfl rfl) ?_)
        refine l_of (s_val (v := .int .i64 0) (wt0 rfl) rfl rfl (x_move rfl rfl) ?_)
        refine g_nil ?_
        refine g_then ?_
        refine g_block ?_
        refine g_loop (ι := Nat × Option Addr × Nat) (fun (k, q, d) => [(0, .pointer (some ⟨tg, 0, none⟩)), (1, .int .i64 ((V0 : Int))), (2, .int .i64 ((I0 : Int))), (3, .int .i64 ((C0 : Int))), (4, .int .i64 ((U0 : Int))), (10, .slice q k d), (11, .slice none 0 0), (13, .int .i64 ((((V0 + tallN C0) : Nat) : Int))), (46, .int .i64 ((C0 : Int))), (47, .int .i64 ((k : Int)))]) (fun (k, q, d) wx => (k ≤ C0) ∧ (∀ j, j < k → (M (V0, I0 + j)).isSome = true) ∧ S wx [Rw 9 1 q k d (stV (gotN (fun a b => M (a, b)) V0 I0 k)), Ob tg (.cells #[.int .i64 ((n : Int)), .int .i64 ((h : Int)), .map (some mg)] 50 (0, 0)), Mp placeV Value.string placeOk mg (M), Old w (fps [Ob tg (.cells #[.int .i64 ((n : Int)), .int .i64 ((h : Int)), .map (some mg)] 50 (0, 0)), Mp placeV Value.string placeOk mg (M)])]) (fun (k, q, d) => C0 - k) (0, none, 0) ⟨rfl, rfl, rfl, rfl, rfl, rfl, rfl, rfl, rfl, rfl, trivial⟩ ⟨Nat.zero_le _, (fun j hj => absurd hj (Nat.not_lt_zero j)), (H6.nilRw 9 1)⟩ ?_
        rintro ⟨k, q, d⟩ wq9 ⟨hk, hG1, H10⟩
        replace H10 : S wq9 [Rw 9 1 q k d (stV (gotN (fun a b => M (a, b)) V0 I0 k)), Ob tg (.cells #[.int .i64 ((n : Int)), .int .i64 ((h : Int)), .map (some mg)] 50 (0, 0)), Mp placeV Value.string placeOk mg (M), Old w (fps [Ob tg (.cells #[.int .i64 ((n : Int)), .int .i64 ((h : Int)), .map (some mg)] 50 (0, 0)), Mp placeV Value.string placeOk mg (M)])] := H10
        refine g_weak [(0, .pointer (some ⟨tg, 0, none⟩)), (1, .int .i64 ((V0 : Int))), (2, .int .i64 ((I0 : Int))), (3, .int .i64 ((C0 : Int))), (4, .int .i64 ((U0 : Int))), (10, .slice q k d), (11, .slice none 0 0), (13, .int .i64 ((((V0 + tallN C0) : Nat) : Int))), (46, .int .i64 ((C0 : Int))), (47, .int .i64 ((k : Int)))] ⟨rfl, rfl, rfl, rfl, rfl, rfl, rfl, rfl, rfl, rfl, trivial⟩ ?_
        refine g_seq ?_
        refine g_region ?_
        refine l_of (s_val (v := .bool (decide (((k : Int) : Int) < (C0 : Int)))) (wt0 rfl) rfl rfl (x_bin rfl rfl rfl b_lss) ?_)
        refine g_nil ?_
        refine g_then ?_
        refine g_seq ?_
        by_cases hb11 : ((k : Int) : Int) < (C0 : Int)
        · skip
          refine g_cond_t rfl (decide_eq_true hb11) ?_
          refine g_skip ?_
          refine g_then ?_
          refine g_seq ?_
          refine g_block ?_
          refine g_seq ?_
          refine g_region ?_
          refine l_of (s_val (v := .int .i64 ((k : Int))) (wt0 rfl) rfl rfl (x_move rfl rfl) ?_)
          refine l_of (s_val (v := .int .i64 ((k : Int))) (wt0 rfl) rfl rfl (x_assign rfl rfl) ?_)
          refine g_nil ?_
          refine g_then ?_
          refine g_seq ?_
          refine g_region ?_
          refine l_of (s_val (v := .pointer (some ⟨tg, 0, none⟩)) (wt0 rfl) rfl rfl (x_move rfl rfl) ?_)
          refine l_of (s_val (v := .pointer (some ⟨tg, 0, none⟩)) (wt0 rfl) rfl rfl (x_nilCheck rfl rfl) ?_)
          refine l_of (s_val (v := .pointer (some ⟨tg, 2, none⟩)) (wt0 rfl) rfl rfl (x_fieldAddr rfl rfl fo50_2 rfl) ?_)
          refine l_of (s_val (v := .map (some mg)) (wt0 rfl) rfl rfl (x_load1 H10 1 rfl rfl Tryz.underlying48 rfl rfl rfl) ?_)
          refine l_of (s_val (v := .int .i64 ((V0 : Int))) (wt0 rfl) rfl rfl (x_move rfl rfl) ?_)
          refine l_of (s_val (v := .int .i64 ((I0 : Int))) (wt0 rfl) rfl rfl (x_move rfl rfl) ?_)
          refine l_of (s_val (v := .int .i64 ((k : Int))) (wt0 rfl) rfl rfl (x_move rfl rfl) ?_)
          refine l_of (s_val (v := .int .i64 (((I0 + k : Nat) : Int))) (wt0 rfl) rfl rfl (x_bin rfl rfl rfl (b_addN (a := I0) (b := k) (by omega))) ?_)
          refine l_of (s_val (v := .agg #[.int .i64 ((V0 : Int)), .int .i64 (((I0 + k : Nat) : Int))]) (wt0 rfl) rfl rfl (x_build (vs := [.int .i64 ((V0 : Int)), .int .i64 (((I0 + k : Nat) : Int))]) rfl rfl (cells := #[.int .i64 ((V0 : Int)), .int .i64 (((I0 + k : Nat) : Int))]) (by kernel_rfl)) ?_)
          refine l_of (s_val (v := .tuple #[.string (((M (V0, I0 + k)).getD ⟨#[]⟩)), .bool ((M (V0, I0 + k)).isSome)]) (wt0 rfl) rfl rfl (ex_cast (x_lookup (x := (V0, I0 + k)) placeR H10 2 rfl rfl rfl rfl ⟨by (show _ ≤ 1099511627776); omega, by (show _ ≤ 1099511627776); omega⟩ ze9) (by rw [look_S])) ?_)
          refine l_of (s_val (v := .tuple #[.string (((M (V0, I0 + k)).getD ⟨#[]⟩)), .bool ((M (V0, I0 + k)).isSome)]) (wt0 rfl) rfl rfl (x_move rfl rfl) ?_)
          refine l_of (s_val (v := .string (((M (V0, I0 + k)).getD ⟨#[]⟩))) (wt0 rfl) rfl rfl (x_extract rfl rfl rfl) ?_)
          refine l_of (s_val (v := .bool ((M (V0, I0 + k)).isSome)) (wt0 rfl) rfl rfl (x_extract rfl rfl rfl) ?_)
          refine l_of (s_val (v := .string (((M (V0, I0 + k)).getD ⟨#[]⟩))) (wt0 rfl) rfl rfl (x_assign rfl rfl) ?_)
          refine l_of (s_val (v := .bool ((M (V0, I0 + k)).isSome)) (wt0 rfl) rfl rfl (x_assign rfl rfl) ?_)
          refine g_nil ?_
          refine g_then ?_
          refine g_weak [(0, .pointer (some ⟨tg, 0, none⟩)), (1, .int .i64 ((V0 : Int))), (2, .int .i64 ((I0 : Int))), (3, .int .i64 ((C0 : Int))), (4, .int .i64 ((U0 : Int))), (10, .slice q k d), (11, .slice none 0 0), (13, .int .i64 ((((V0 + tallN C0) : Nat) : Int))), (15, .string (((M (V0, I0 + k)).getD ⟨#[]⟩))), (16, .bool ((M (V0, I0 + k)).isSome)), (46, .int .i64 ((C0 : Int))), (47, .int .i64 ((k : Int)))] ⟨rfl, rfl, rfl, rfl, rfl, rfl, rfl, rfl, rfl, rfl, rfl, rfl, trivial⟩ ?_
          refine g_seq ?_
          refine g_seq ?_
          refine g_region ?_
          refine l_of (s_val (v := .bool ((M (V0, I0 + k)).isSome)) (wt0 rfl) rfl rfl (x_move rfl rfl) ?_)
          refine l_of (s_val (v := .bool (!((M (V0, I0 + k)).isSome))) (wt0 rfl) rfl rfl (x_not (b := (M (V0, I0 + k)).isSome) rfl rfl) ?_)
          refine g_nil ?_
          refine g_then ?_
          rcases Bool.eq_false_or_eq_true ((M (V0, I0 + k)).isSome) with hb12 | hb12
          · skip
            refine g_cond_f rfl (neg_of hb12) ?_
            refine g_skip ?_
            refine g_then ?_
            refine g_region ?_
            refine l_of (s_val (v := .slice q k d) (wt0 rfl) rfl rfl (x_move rfl rfl) ?_)
            refine l_of (s_val (v := .string (((M (V0, I0 + k)).getD ⟨#[]⟩))) (wt0 rfl) rfl rfl (x_move rfl rfl) ?_)
            refine l_of (s_buildSlice H10 (wt0 rfl) rfl rfl rfl (vs := [.string (((M (V0, I0 + k)).getD ⟨#[]⟩))]) rfl Tryz.underlying22 sz9 ze9 rfl rfl (cells := #[.string (((M (V0, I0 + k)).getD ⟨#[]⟩))]) (by kernel_rfl) ?_)
            intro g13 wq14 H15
            refine l_of (s_appendR (n := k) (m := 1) (sc := d) (xs := (stV (gotN (fun a b => M (a, b)) V0 I0 k))) (news := [.string (((M (V0, I0 + k)).getD ⟨#[]⟩))]) (p := q) (ad := ⟨g13, 0, none⟩) H15 1 (wt0 rfl) rfl rfl rfl rfl rfl rfl Tryz.underlying22 inf9 rfl (by decide) (by decide) rfl (by decide) (news_ob H15 (j0 := 0) rfl) rfl (by omega) ?_)
            intro p16 c17 wq18 (H19 : S wq18 [Ob g13 (.cells #[.string (((M (V0, I0 + k)).getD ⟨#[]⟩))] 9 (0, 0)), Rw 9 1 p16 (k + 1) c17 ((stV (gotN (fun a b => M (a, b)) V0 I0 k)) ++ [.string (((M (V0, I0 + k)).getD ⟨#[]⟩))]), Ob tg (.cells #[.int .i64 ((n : Int)), .int .i64 ((h : Int)), .map (some mg)] 50 (0, 0)), Mp placeV Value.string placeOk mg (M), Old w (fps [Ob tg (.cells #[.int .i64 ((n : Int)), .int .i64 ((h : Int)), .map (some mg)] 50 (0, 0)), Mp placeV Value.string placeOk mg (M)])])
            refine l_of (s_val (v := .slice p16 (k + 1) c17) (wt0 rfl) rfl rfl (x_assign rfl rfl) ?_)
            refine g_nil ?_
            refine g_in ?_
            refine g_then ?_
            refine g_region ?_
            refine l_of (s_val (v := .int .i64 ((k : Int) + 1)) (wt0 rfl) rfl rfl (x_bin rfl rfl rfl (b_add (w64 (by omega)))) ?_)
            refine l_of (s_val (v := .int .i64 ((k : Int) + 1)) (wt0 rfl) rfl rfl (x_move rfl rfl) ?_)
            refine g_nil ?_
            refine g_then ?_
            refine g_round (i := (k, q, d)) (k + 1, p16, c17) ?_ ?_ ?_
            · exact ⟨rfl, rfl, rfl, rfl, rfl, rfl, rfl, rfl, rfl, rfl, trivial⟩
            · exact ⟨by omega, (has_next hG1 hb12), (by rw [gotN_next, stV_snoc]; exact (H19.takes [1, 2, 3, 4] (by decide)))⟩
            · (try dsimp only); omega
          · skip
            refine g_cond_t rfl (neg_of hb12) ?_
            refine g_seq ?_
            refine g_region ?_
            refine l_of (s_val (v := .slice none 0 0) (wt0 rfl) rfl rfl (x_assign rfl rfl) ?_)
            refine l_of (s_val (v := .slice none 0 0) (wt0 rfl) rfl rfl (x_assign rfl rfl) ?_)
            refine l_of (s_val (v := .int .i64 8) (wt0 rfl) rfl rfl (x_assign rfl rfl) ?_)
            refine g_nil ?_
            refine g_then ?_
            refine g_weak [(10, .slice none 0 0), (11, .slice none 0 0), (12, .int .i64 8)] ⟨rfl, rfl, rfl, trivial⟩ ?_
            refine g_ret ?_
            refine g_then_ret ?_
            refine g_in_ret ?_
            refine g_then_ret ?_
            refine g_then_ret ?_
            refine g_in_ret ?_
            refine g_then_ret ?_
            refine fin_ret [.tmp 10, .tmp 11, .tmp 12] [.slice none 0 0, .slice none 0 0, .int .i64 8] rfl ⟨rfl, rfl, rfl, trivial⟩ ?_
            rw [give_miss hgo (fun hq => no_has hb12 (hq.1 k (by rw [Int.toNat_natCast]; omega)))]
            exact ⟨none, 0, none, 0, rfl, ((H10.takes [1, 2, 3] (by decide)).nilRw 9 1).nilRw 9 1⟩
        · skip
          have hkk : C0 = k := by omega
          subst hkk
          refine g_cond_f rfl (decide_eq_false hb11) ?_
          refine g_exit ?_
          refine g_then_exit ?_
          refine g_then_exit ?_
          refine g_in_hit ?_
          refine g_then ?_
          refine g_seq ?_
          refine g_region ?_
          refine l_of (s_val (v := .int .i64 ((I0 : Int))) (wt0 rfl) rfl rfl (x_move rfl rfl) ?_)
          refine l_of (s_val (v := .int .i64 ((C0 : Int))) (wt0 rfl) rfl rfl (x_move rfl rfl) ?_)
          refine l_of (s_val (v := .int .i64 ((((I0 / C0) : Nat) : Int))) (wt0 rfl) rfl rfl (x_bin rfl rfl rfl (b_quoN (a := I0) (b := C0) (by omega))) ?_)
          refine l_of (s_val (v := .int .i64 ((((I0 / C0) : Nat) : Int))) (wt0 rfl) rfl rfl (x_assign rfl rfl) ?_)
          refine g_nil ?_
          refine g_then ?_
          refine g_seq ?_
          refine g_seq ?_
          refine g_region ?_
          refine l_of (s_val (v := .int .i64 ((U0 : Int))) (wt0 rfl) rfl rfl (x_move rfl rfl) ?_)
          refine l_of (s_val (v := .int .i64 0) (wt0 rfl) rfl rfl (x_move rfl rfl) ?_)
          refine g_nil ?_
          refine g_then ?_
          refine g_block ?_
          refine g_loop (ι := Nat × Nat × Option Addr × Nat) (fun (k2, bs, q2, d2) => [(0, .pointer (some ⟨tg, 0, none⟩)), (10, .slice q C0 d), (11, .slice q2 k2 d2), (13, .int .i64 ((((V0 + tallN C0) : Nat) : Int))), (17, .int .i64 ((bs : Int))), (73, .int .i64 ((U0 : Int))), (74, .int .i64 ((k2 : Int)))]) (fun (k2, bs, q2, d2) wx => (k2 ≤ U0) ∧ (bs = (I0 / C0) / 2 ^ k2) ∧ (∀ j, j < k2 → (M ((V0 + tallN C0) + j, (I0 / C0) / 2 ^ j ^^^ 1)).isSome = true) ∧ S wx [Rw 9 1 q2 k2 d2 (stV (uncN (fun a b => M (a, b)) (V0 + tallN C0) (I0 / C0) k2)), Rw 9 1 q C0 d (stV (gotN (fun a b => M (a, b)) V0 I0 C0)), Ob tg (.cells #[.int .i64 ((n : Int)), .int .i64 ((h : Int)), .map (some mg)] 50 (0, 0)), Mp placeV Value.string placeOk mg (M), Old w (fps [Ob tg (.cells #[.int .i64 ((n : Int)), .int .i64 ((h : Int)), .map (some mg)] 50 (0, 0)), Mp placeV Value.string placeOk mg (M)])]) (fun (k2, bs, q2, d2) => U0 - k2) (0, (I0 / C0), none, 0) ⟨rfl, rfl, rfl, rfl, rfl, rfl, rfl, trivial⟩ ⟨Nat.zero_le _, (by rw [Nat.pow_zero, Nat.div_one]), (fun j hj => absurd hj (Nat.not_lt_zero j)), (H10.nilRw 9 1)⟩ ?_
          rintro ⟨k2, bs, q2, d2⟩ wq20 ⟨hk2, hbs, hG2, H21⟩
          replace H21 : S wq20 [Rw 9 1 q2 k2 d2 (stV (uncN (fun a b => M (a, b)) (V0 + tallN C0) (I0 / C0) k2)), Rw 9 1 q C0 d (stV (gotN (fun a b => M (a, b)) V0 I0 C0)), Ob tg (.cells #[.int .i64 ((n : Int)), .int .i64 ((h : Int)), .map (some mg)] 50 (0, 0)), Mp placeV Value.string placeOk mg (M), Old w (fps [Ob tg (.cells #[.int .i64 ((n : Int)), .int .i64 ((h : Int)), .map (some mg)] 50 (0, 0)), Mp placeV Value.string placeOk mg (M)])] := H21
          refine g_weak [(0, .pointer (some ⟨tg, 0, none⟩)), (10, .slice q C0 d), (11, .slice q2 k2 d2), (13, .int .i64 ((((V0 + tallN C0) : Nat) : Int))), (17, .int .i64 ((bs : Int))), (73, .int .i64 ((U0 : Int))), (74, .int .i64 ((k2 : Int)))] ⟨rfl, rfl, rfl, rfl, rfl, rfl, rfl, trivial⟩ ?_
          have hxb := xor_le bs
          have hbi : bs ≤ I0 / C0 := by rw [hbs]; exact Nat.div_le_self _ _
          refine g_seq ?_
          refine g_region ?_
          refine l_of (s_val (v := .bool (decide (((k2 : Int) : Int) < (U0 : Int)))) (wt0 rfl) rfl rfl (x_bin rfl rfl rfl b_lss) ?_)
          refine g_nil ?_
          refine g_then ?_
          refine g_seq ?_
          by_cases hb22 : ((k2 : Int) : Int) < (U0 : Int)
          · skip
            refine g_cond_t rfl (decide_eq_true hb22) ?_
            refine g_skip ?_
            refine g_then ?_
            refine g_seq ?_
            refine g_block ?_
            refine g_seq ?_
            refine g_region ?_
            refine l_of (s_val (v := .int .i64 ((k2 : Int))) (wt0 rfl) rfl rfl (x_move rfl rfl) ?_)
            refine l_of (s_val (v := .int .i64 ((k2 : Int))) (wt0 rfl) rfl rfl (x_assign rfl rfl) ?_)
            refine g_nil ?_
            refine g_then ?_
            refine g_seq ?_
            refine g_quiet (by kernel_rfl) (by kernel_rfl) H21 ?_
            refine q_val (v := .pointer (some ⟨tg, 0, none⟩)) (wt0 rfl) rfl rfl (fun wx H => x_move rfl rfl) ?_
            refine q_val (v := .pointer (some ⟨tg, 0, none⟩)) (wt0 rfl) rfl rfl (fun wx H => x_nilCheck rfl rfl) ?_
            refine q_val (v := .pointer (some ⟨tg, 2, none⟩)) (wt0 rfl) rfl rfl (fun wx H => x_fieldAddr rfl rfl fo50_2 rfl) ?_
            refine q_val (v := .map (some mg)) (wt0 rfl) rfl rfl (fun wx H => x_load1 H 2 rfl rfl Tryz.underlying48 rfl rfl rfl) ?_
            refine q_val (v := .int .i64 ((((V0 + tallN C0) : Nat) : Int))) (wt0 rfl) rfl rfl (fun wx H => x_move rfl rfl) ?_
            refine q_val (v := .int .i64 ((k2 : Int))) (wt0 rfl) rfl rfl (fun wx H => x_move rfl rfl) ?_
            refine q_val (v := .int .i64 ((((V0 + tallN C0) + k2 : Nat) : Int))) (wt0 rfl) rfl rfl (fun wx H => x_bin rfl rfl rfl (b_addN (a := (V0 + tallN C0)) (b := k2) (by omega))) ?_
            refine q_val (v := .int .i64 ((bs : Int))) (wt0 rfl) rfl rfl (fun wx H => x_move rfl rfl) ?_
            refine q_call (wt0 rfl) rfl rfl (fun wx H => x_call' rfl rfl cl54) (fun wx H => (sib_x _ (by omega) _).mono (by rintro _ _ ⟨rfl, h⟩; exact ⟨rfl, H.absorb (new := []) h⟩)) ?_
            refine q_val (v := .agg #[.int .i64 ((((V0 + tallN C0) + k2 : Nat) : Int)), .int .i64 (((bs ^^^ 1 : Nat) : Int))]) (wt0 rfl) rfl rfl (fun wx H => x_build (vs := [.int .i64 ((((V0 + tallN C0) + k2 : Nat) : Int)), .int .i64 (((bs ^^^ 1 : Nat) : Int))]) rfl rfl (cells := #[.int .i64 ((((V0 + tallN C0) + k2 : Nat) : Int)), .int .i64 (((bs ^^^ 1 : Nat) : Int))]) (by kernel_rfl)) ?_
            refine q_val (v := .tuple #[.string (((M ((V0 + tallN C0) + k2, bs ^^^ 1)).getD ⟨#[]⟩)), .bool ((M ((V0 + tallN C0) + k2, bs ^^^ 1)).isSome)]) (wt0 rfl) rfl rfl (fun wx H => ex_cast (x_lookup (x := ((V0 + tallN C0) + k2, bs ^^^ 1)) placeR H 3 rfl rfl rfl rfl ⟨by (show _ ≤ 1099511627776); omega, by (show _ ≤ 1099511627776); omega⟩ ze9) (by rw [look_S])) ?_
            refine q_val (v := .tuple #[.string (((M ((V0 + tallN C0) + k2, bs ^^^ 1)).getD ⟨#[]⟩)), .bool ((M ((V0 + tallN C0) + k2, bs ^^^ 1)).isSome)]) (wt0 rfl) rfl rfl (fun wx H => x_move rfl rfl) ?_
            refine q_val (v := .string (((M ((V0 + tallN C0) + k2, bs ^^^ 1)).getD ⟨#[]⟩))) (wt0 rfl) rfl rfl (fun wx H => x_extract rfl rfl rfl) ?_
            refine q_val (v := .bool ((M ((V0 + tallN C0) + k2, bs ^^^ 1)).isSome)) (wt0 rfl) rfl rfl (fun wx H => x_extract rfl rfl rfl) ?_
            refine q_val (v := .string (((M ((V0 + tallN C0) + k2, bs ^^^ 1)).getD ⟨#[]⟩))) (wt0 rfl) rfl rfl (fun wx H => x_assign rfl rfl) ?_
            refine q_val (v := .bool ((M ((V0 + tallN C0) + k2, bs ^^^ 1)).isSome)) (wt0 rfl) rfl rfl (fun wx H => x_assign rfl rfl) ?_
            refine q_nil (fun wq23 H24 => ?_)
            refine g_then ?_
            refine g_weak [(0, .pointer (some ⟨tg, 0, none⟩)), (10, .slice q C0 d), (11, .slice q2 k2 d2), (13, .int .i64 ((((V0 + tallN C0) : Nat) : Int))), (17, .int .i64 ((bs : Int))), (19, .string (((M ((V0 + tallN C0) + k2, bs ^^^ 1)).getD ⟨#[]⟩))), (20, .bool ((M ((V0 + tallN C0) + k2, bs ^^^ 1)).isSome)), (73, .int .i64 ((U0 : Int))), (74, .int .i64 ((k2 : Int)))] ⟨rfl, rfl, rfl, rfl, rfl, rfl, rfl, rfl, rfl, trivial⟩ ?_
            refine g_seq ?_
            refine g_seq ?_
            refine g_region ?_
            refine l_of (s_val (v := .bool ((M ((V0 + tallN C0) + k2, bs ^^^ 1)).isSome)) (wt0 rfl) rfl rfl (x_move rfl rfl) ?_)
            refine l_of (s_val (v := .bool (!((M ((V0 + tallN C0) + k2, bs ^^^ 1)).isSome))) (wt0 rfl) rfl rfl (x_not (b := (M ((V0 + tallN C0) + k2, bs ^^^ 1)).isSome) rfl rfl) ?_)
            refine g_nil ?_
            refine g_then ?_
            rcases Bool.eq_false_or_eq_true ((M ((V0 + tallN C0) + k2, bs ^^^ 1)).isSome) with hb25 | hb25
            · skip
              refine g_cond_f rfl (neg_of hb25) ?_
              refine g_skip ?_
              refine g_then ?_
              refine g_seq ?_
              refine g_region ?_
              refine l_of (s_val (v := .slice q2 k2 d2) (wt0 rfl) rfl rfl (x_move rfl rfl) ?_)
              refine l_of (s_val (v := .string (((M ((V0 + tallN C0) + k2, bs ^^^ 1)).getD ⟨#[]⟩))) (wt0 rfl) rfl rfl (x_move rfl rfl) ?_)
              refine l_of (s_buildSlice H24 (wt0 rfl) rfl rfl rfl (vs := [.string (((M ((V0 + tallN C0) + k2, bs ^^^ 1)).getD ⟨#[]⟩))]) rfl Tryz.underlying22 sz9 ze9 rfl rfl (cells := #[.string (((M ((V0 + tallN C0) + k2, bs ^^^ 1)).getD ⟨#[]⟩))]) (by kernel_rfl) ?_)
              intro g26 wq27 H28
              refine l_of (s_appendR (n := k2) (m := 1) (sc := d2) (xs := (stV (uncN (fun a b => M (a, b)) (V0 + tallN C0) (I0 / C0) k2))) (news := [.string (((M ((V0 + tallN C0) + k2, bs ^^^ 1)).getD ⟨#[]⟩))]) (p := q2) (ad := ⟨g26, 0, none⟩) H28 1 (wt0 rfl) rfl rfl rfl rfl rfl rfl Tryz.underlying22 inf9 rfl (by decide) (by decide) rfl (by decide) (news_ob H28 (j0 := 0) rfl) rfl (by omega) ?_)
              intro p29 c30 wq31 (H32 : S wq31 [Ob g26 (.cells #[.string (((M ((V0 + tallN C0) + k2, bs ^^^ 1)).getD ⟨#[]⟩))] 9 (0, 0)), Rw 9 1 p29 (k2 + 1) c30 ((stV (uncN (fun a b => M (a, b)) (V0 + tallN C0) (I0 / C0) k2)) ++ [.string (((M ((V0 + tallN C0) + k2, bs ^^^ 1)).getD ⟨#[]⟩))]), Rw 9 1 q C0 d (stV (gotN (fun a b => M (a, b)) V0 I0 C0)), Ob tg (.cells #[.int .i64 ((n : Int)), .int .i64 ((h : Int)), .map (some mg)] 50 (0, 0)), Mp placeV Value.string placeOk mg (M), Old w (fps [Ob tg (.cells #[.int .i64 ((n : Int)), .int .i64 ((h : Int)), .map (some mg)] 50 (0, 0)), Mp placeV Value.string placeOk mg (M)])])
              refine l_of (s_val (v := .slice p29 (k2 + 1) c30) (wt0 rfl) rfl rfl (x_assign rfl rfl) ?_)
              refine g_nil ?_
              refine g_then ?_
              refine g_region ?_
              refine l_of (s_val (v := .int .i64 ((bs : Int))) (wt0 rfl) rfl rfl (x_move rfl rfl) ?_)
              refine l_of (s_val (v := .int .i64 (((bs / 2 : Nat) : Int))) (wt0 rfl) rfl rfl (x_bin rfl rfl rfl (b_quoN (a := bs) (b := 2) (by omega))) ?_)
              refine l_of (s_val (v := .int .i64 (((bs / 2 : Nat) : Int))) (wt0 rfl) rfl rfl (x_assign rfl rfl) ?_)
              refine g_nil ?_
              refine g_in ?_
              refine g_then ?_
              refine g_region ?_
              refine l_of (s_val (v := .int .i64 ((k2 : Int) + 1)) (wt0 rfl) rfl rfl (x_bin rfl rfl rfl (b_add (w64 (by omega)))) ?_)
              refine l_of (s_val (v := .int .i64 ((k2 : Int) + 1)) (wt0 rfl) rfl rfl (x_move rfl rfl) ?_)
              refine g_nil ?_
              refine g_then ?_
              refine g_round (i := (k2, bs, q2, d2)) (k2 + 1, bs / 2, p29, c30) ?_ ?_ ?_
              · exact ⟨rfl, rfl, rfl, rfl, rfl, rfl, rfl, trivial⟩
              · exact ⟨by omega, (by rw [hbs, Nat.div_div_eq_div_mul, Nat.pow_succ]), (has_next hG2 (by rw [← hbs]; exact hb25)), (by rw [uncN_next, stV_snoc, ← hbs]; exact (H32.takes [1, 2, 3, 4, 5] (by decide)))⟩
              · (try dsimp only); omega
            · skip
              refine g_cond_t rfl (neg_of hb25) ?_
              refine g_seq ?_
              refine g_region ?_
              refine l_of (s_val (v := .slice none 0 0) (wt0 rfl) rfl rfl (x_assign rfl rfl) ?_)
              refine l_of (s_val (v := .slice none 0 0) (wt0 rfl) rfl rfl (x_assign rfl rfl) ?_)
              refine l_of (s_val (v := .int .i64 8) (wt0 rfl) rfl rfl (x_assign rfl rfl) ?_)
              refine g_nil ?_
              refine g_then ?_
              refine g_ret ?_
              refine g_then_ret ?_
              refine g_in_ret ?_
              refine g_then_ret ?_
              refine g_then_ret ?_
              refine g_in_ret ?_
              refine g_then_ret ?_
              refine fin_ret [.tmp 10, .tmp 11, .tmp 12] [.slice none 0 0, .slice none 0 0, .int .i64 8] rfl ⟨rfl, rfl, rfl, trivial⟩ ?_
              rw [give_miss hgo (fun hq => no_has hb25 (by rw [hbs]; exact hq.2 k2 (by rw [Int.toNat_natCast]; omega)))]
              exact ⟨none, 0, none, 0, rfl, ((H24.takes [2, 3, 4] (by decide)).nilRw 9 1).nilRw 9 1⟩
          · skip
            have hkk2 : U0 = k2 := by omega
            subst hkk2
            refine g_cond_f rfl (decide_eq_false hb22) ?_
            refine g_exit ?_
            refine g_then_exit ?_
            refine g_then_exit ?_
            refine g_in_hit ?_
            refine g_then ?_
            refine g_seq ?_
            refine g_region ?_
            refine l_of (s_val (v := .slice q C0 d) (wt0 rfl) rfl rfl (x_move rfl rfl) ?_)
            refine l_of (s_val (v := .slice q2 U0 d2) (wt0 rfl) rfl rfl (x_move rfl rfl) ?_)
            refine l_of (s_val (v := .slice q C0 d) (wt0 rfl) rfl rfl (x_assign rfl rfl) ?_)
            refine l_of (s_val (v := .slice q2 U0 d2) (wt0 rfl) rfl rfl (x_assign rfl rfl) ?_)
            refine l_of (s_val (v := .int .i64 0) (wt0 rfl) rfl rfl (x_assign rfl rfl) ?_)
            refine g_nil ?_
            refine g_then ?_
            refine g_ret ?_
            refine fin_ret [.tmp 10, .tmp 11, .tmp 12] [.slice q C0 d, .slice q2 U0 d2, .int .i64 0] rfl ⟨rfl, rfl, rfl, trivial⟩ ?_
            have hhas : Has (fun a b => M (a, b)) (V0 : Int) (I0 : Int) (C0 : Int) (U0 : Int) := ⟨fun j hj => hG1 j hj, fun j hj => hG2 j hj⟩
            rw [give_ok hgo hhas]
            simp only [Int.toNat_natCast, gotN_len, uncN_len]
            exact ⟨_, _, _, _, rfl, H21.takes [1, 0, 2, 3, 4] (by decide)⟩
  · skip
    refine g_cond_t rfl (neg_of hb3) ?_
    refine g_seq ?_
    refine g_region ?_
    refine l_of (s_val (v := .slice none 0 0) (wt0 rfl) rfl rfl (x_assign rfl rfl) ?_)
    refine l_of (s_val (v := .slice none 0 0) (wt0 rfl) rfl rfl (x_assign rfl rfl) ?_)
    refine l_of (s_val (v := .int .i64 7) (wt0 rfl) rfl rfl (x_assign rfl rfl) ?_)
    refine g_nil ?_
    refine g_then ?_
    refine g_weak [(10, .slice none 0 0), (11, .slice none 0 0), (12, .int .i64 7)] ⟨rfl, rfl, rfl, trivial⟩ ?_
    refine g_ret ?_
    refine g_then_ret ?_
    refine fin_ret [.tmp 10, .tmp 11, .tmp 12] [.slice none 0 0, .slice none 0 0, .int .i64 7] rfl ⟨rfl, rfl, rfl, trivial⟩ ?_
    rw [give_no (fun hq => no_has hb3 hq.1)]
    exact ⟨none, 0, none, 0, rfl, ((H2.takes [0, 1, 2] (by decide)).nilRw 9 1).nilRw 9 1⟩
end Go.Proofs.YtlajgickimgigaaGreat
