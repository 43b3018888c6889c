import Derived.Test.YtlajgickimgigaaGreatTC
import Derived.Test.YtlajgickimgigaaGreatShelf
set_option linter.unusedSimpArgs false
set_option linter.unusedVariables false
namespace Go.Proofs.YtlajgickimgigaaGreat
open Go.RowKit

theorem cl82 : callable Tryz.prog 82 = true := by kernel_rfl
theorem cl93 : callable Tryz.prog 93 = true := by kernel_rfl
theorem cl26 : callable Tryz.prog 26 = true := by kernel_rfl
theorem cl63 : callable Tryz.prog 63 = true := by kernel_rfl
theorem cl64 : callable Tryz.prog 64 = true := by kernel_rfl
theorem cl65 : callable Tryz.prog 65 = true := by kernel_rfl
theorem cl67 : callable Tryz.prog 67 = true := by kernel_rfl
theorem ze5 : zeO Tryz.prog 5 = some (.int .u8 0) := by kernel_rfl
theorem bytes_row {b : List Nat} (h : ∀ x ∈ b, x < 256) {w : World} {p : Option Addr} {n c : Nat} (hr : Reads w p n c 1 (nbL b)) : Reads w p n c 1 (bytesV (b.map UInt8.ofNat)) := by rw [← nbL_bytes h]; exact hr
set_option maxRecDepth 20000 in
set_option maxHeartbeats 4000000 in
theorem eight_h (h : Nat) (hh : h < 18446744073709551616) (w : World) : Calls Tryz.prog 93 #[.int .u64 ((h : Int))] w fun e w' => ∃ p c, e = .returned (.slice p 8 c) ∧ S w' ([Rw 5 1 p 8 c (nbL (eightT h))] ++ [Old w no]) := by
  have H0 := S.old w
  refine enter 17 Tryz.func93 rfl rfl rfl ?_
  refine g_weak [(0, .int .u64 ((h : Int)))] ⟨rfl, trivial⟩ ?_
  refine g_seq ?_
  refine g_region ?_
  refine l_of (s_val (v := .slice none 0 0) (wt0 rfl) rfl rfl (x_assign rfl rfl) ?_)
  refine g_nil ?_
  refine g_then ?_
  refine g_seq ?_
  refine g_region ?_
  have H1 : S w [Rw 5 1 none 0 0 [], Old w no] := H0.nilRw 5 1
  refine l_of (s_val (v := .slice none 0 0) (wt0 rfl) rfl rfl (x_assign rfl rfl) ?_)
  refine g_nil ?_
  refine g_then ?_
  refine g_seq ?_
  refine g_seq ?_
  refine g_region ?_
  refine l_of (s_val (v := .int .i64 56) (wt0 rfl) rfl rfl (x_assign rfl rfl) ?_)
  refine g_nil ?_
  refine g_then ?_
  refine g_block ?_
  refine g_loop (ι := Nat × Int × Option Addr × Nat) (fun (i, x, q, d) => [(0, .int .u64 ((h : Int))), (3, .slice q i d), (4, .int .i64 x)]) (fun (i, x, q, d) wx => (i ≤ 8) ∧ (x = 56 - 8 * (i : Int)) ∧ S wx [Rw 5 1 q i d (nbL (eightTo h i)), Old w no]) (fun (i, x, q, d) => 8 - i) (0, 56, none, 0) ⟨rfl, rfl, rfl, trivial⟩ ⟨Nat.zero_le _, rfl, (H1.takes [0, 1] (by decide))⟩ ?_
  rintro ⟨i, x, q, d⟩ wq2 ⟨hi, hx, H3⟩
  replace H3 : S wq2 [Rw 5 1 q i d (nbL (eightTo h i)), Old w no] := H3
  refine g_weak [(0, .int .u64 ((h : Int))), (3, .slice q i d), (4, .int .i64 x)] ⟨rfl, rfl, rfl, trivial⟩ ?_
  refine g_seq ?_
  refine g_seq ?_
  refine g_region ?_
  refine l_of (s_val (v := .int .i64 x) (wt0 rfl) rfl rfl (x_move rfl rfl) ?_)
  refine l_of (s_val (v := .bool (decide ((0 : Int) ≤ x))) (wt0 rfl) rfl rfl (x_bin rfl rfl rfl b_geq) ?_)
  refine g_nil ?_
  refine g_then ?_
  by_cases hb4 : (0 : Int) ≤ x
  · skip
    refine g_cond_t rfl (decide_eq_true hb4) ?_
    refine g_skip ?_
    refine g_then ?_
    refine g_seq ?_
    refine g_block ?_
    refine g_region ?_
    refine l_of (s_val (v := .slice q i d) (wt0 rfl) rfl rfl (x_move rfl rfl) ?_)
    refine l_of (s_val (v := .int .u64 ((h : Int))) (wt0 rfl) rfl rfl (x_move rfl rfl) ?_)
    refine l_of (s_val (v := .int .i64 x) (wt0 rfl) rfl rfl (x_move rfl rfl) ?_)
    refine l_of (s_val (v := .int .u64 (((h / 2 ^ (56 - 8 * i) : Nat) : Int))) (wt0 rfl) rfl rfl (x_bin rfl rfl rfl (b_shrI (a := h) (n := 56 - 8 * i) (by omega) (by show 56 - 8 * i ≤ 64; omega))) ?_)
    refine l_of (s_val (v := .int .u8 (((h / 2 ^ (56 - 8 * i) % 256 : Nat) : Int))) (wt0 rfl) rfl rfl (x_conv rfl rfl Tryz.underlying115 Tryz.underlying5 (wrapB _)) ?_)
    refine l_of (s_buildSlice H3 (wt0 rfl) rfl rfl rfl (vs := [.int .u8 (((h / 2 ^ (56 - 8 * i) % 256 : Nat) : Int))]) rfl Tryz.underlying130 sz5 ze5 rfl rfl (cells := #[.int .u8 (((h / 2 ^ (56 - 8 * i) % 256 : Nat) : Int))]) (by kernel_rfl) ?_)
    intro g5 wq6 H7
    refine l_of (s_appendR (n := i) (m := 1) (sc := d) (xs := (nbL (eightTo h i))) (news := [.int .u8 (((h / 2 ^ (56 - 8 * i) % 256 : Nat) : Int))]) (p := q) (ad := ⟨g5, 0, none⟩) H7 1 (wt0 rfl) rfl rfl rfl rfl rfl rfl Tryz.underlying130 inf5 rfl (by decide) (by decide) rfl (by decide) (news_ob H7 (j0 := 0) rfl) rfl (by omega) ?_)
    intro p8 c9 wq10 (H11 : S wq10 [Ob g5 (.cells #[.int .u8 (((h / 2 ^ (56 - 8 * i) % 256 : Nat) : Int))] 5 (0, 0)), Rw 5 1 p8 (i + 1) c9 ((nbL (eightTo h i)) ++ [.int .u8 (((h / 2 ^ (56 - 8 * i) % 256 : Nat) : Int))]), Old w no])
    refine l_of (s_val (v := .slice p8 (i + 1) c9) (wt0 rfl) rfl rfl (x_assign rfl rfl) ?_)
    refine g_nil ?_
    refine g_in ?_
    refine g_then ?_
    refine g_region ?_
    refine l_of (s_val (v := .int .i64 x) (wt0 rfl) rfl rfl (x_move rfl rfl) ?_)
    refine l_of (s_val (v := .int .i64 (x - 8)) (wt0 rfl) rfl rfl (x_bin rfl rfl rfl (b_sub (w64 (by omega)))) ?_)
    refine l_of (s_val (v := .int .i64 (x - 8)) (wt0 rfl) rfl rfl (x_assign rfl rfl) ?_)
    refine g_nil ?_
    refine g_then ?_
    refine g_round (i := (i, x, q, d)) (i + 1, x - 8, p8, c9) ?_ ?_ ?_
    · exact ⟨rfl, rfl, rfl, trivial⟩
    · exact ⟨by omega, by omega, (by rw [eightTo_next, nbL_app]; exact (H11.takes [1, 2] (by decide)))⟩
    · (try dsimp only); omega
  · skip
    refine g_cond_f rfl (decide_eq_false hb4) ?_
    refine g_exit ?_
    refine g_then_exit ?_
    refine g_then_exit ?_
    refine g_in_hit ?_
    refine g_then ?_
    refine g_seq ?_
    refine g_region ?_
    refine l_of (s_val (v := .slice q i d) (wt0 rfl) rfl rfl (x_move rfl rfl) ?_)
    refine l_of (s_val (v := .slice q i d) (wt0 rfl) rfl rfl (x_assign rfl rfl) ?_)
    refine g_nil ?_
    refine g_then ?_
    refine g_ret ?_
    refine fin_ret [.tmp 2] [.slice q i d] rfl ⟨rfl, trivial⟩ ?_
    have hi8 : i = 8 := by omega
    subst hi8
    exact ⟨_, _, rfl, H3⟩
set_option maxRecDepth 20000 in
set_option maxHeartbeats 4000000 in
theorem ended_h (n : Nat) (l : List Nat) (hl : l.length = 4) (hlt : ∀ x ∈ l, x < 18446744073709551616) (hn : n ≤ 1099511627776) (w : World) : Calls Tryz.prog 82 #[.agg (lanV l), .int .i64 ((n : Int))] w fun e w' => e = .returned (.string (nbS (sumTo l n 4))) ∧ S w' [Old w no] := by
  have H0 := S.old w
  refine enter 30 Tryz.func82 rfl rfl rfl ?_
  refine g_weak [(0, .agg (lanV l)), (1, .int .i64 ((n : Int)))] ⟨rfl, rfl, trivial⟩ ?_
  refine g_seq ?_
  refine g_region ?_
  refine l_of (s_box H0 (wt0 rfl) rfl rfl rfl rfl ?_)
  intro g1 wq2 H3
  replace H3 : S wq2 [Ob g1 (.cells (lanV l) 118 (0, 0)), Old w no] := H3
  refine l_of (s_val (v := .string (⟨#[]⟩)) (wt0 rfl) rfl rfl (x_assign rfl rfl) ?_)
  refine g_nil ?_
  refine g_then ?_
  refine g_seq ?_
  refine g_region ?_
  have H4 : S wq2 [Rw 5 1 none 0 0 [], Ob g1 (.cells (lanV l) 118 (0, 0)), Old w no] := H3.nilRw 5 1
  refine l_of (s_val (v := .slice none 0 0) (wt0 rfl) rfl rfl (x_assign rfl rfl) ?_)
  refine g_nil ?_
  refine g_then ?_
  refine g_seq ?_
  refine g_seq ?_
  refine g_region ?_
  refine l_of (s_val (v := .pointer (some ⟨g1, 0, none⟩)) (wt0 rfl) rfl rfl (x_fieldAddr rfl rfl fo118_0 rfl) ?_)
  refine l_of (s_val (v := .agg (lanV l)) (wt0 rfl) rfl rfl (x_loadA H4 1 rfl rfl Tryz.underlying116 rfl sz116 rfl (Nat.ble_eq_true_of_le (by rw [lanV_size]; omega)) (lanV_ext hl)) ?_)
  refine l_of (s_val (v := .int .i64 0) (wt0 rfl) rfl rfl (x_move rfl rfl) ?_)
  refine g_nil ?_
  refine g_then ?_
  refine g_block ?_
  refine g_loop (ι := Nat × Option Addr × Nat) (fun (k, q, d) => [(1, .int .i64 ((n : Int))), (5, .slice q ((8 * k) : Nat) d), (9, .agg (lanV l)), (10, .int .i64 ((k : Int)))]) (fun (k, q, d) wx => (k ≤ 4) ∧ S wx [Rw 5 1 q (8 * k) d (nbL (sumTo l n k)), Old w no]) (fun (k, q, d) => 4 - k) (0, none, 0) ⟨rfl, rfl, rfl, rfl, trivial⟩ ⟨Nat.zero_le _, (H4.takes [0, 2] (by decide))⟩ ?_
  rintro ⟨k, q, d⟩ wq5 ⟨hk, H6⟩
  replace H6 : S wq5 [Rw 5 1 q (8 * k) d (nbL (sumTo l n k)), Old w no] := H6
  refine g_weak [(1, .int .i64 ((n : Int))), (5, .slice q ((8 * k) : Nat) d), (9, .agg (lanV l)), (10, .int .i64 ((k : Int)))] ⟨rfl, rfl, rfl, rfl, trivial⟩ ?_
  have hgl : (l.getD k 0) < 18446744073709551616 := getD_u hlt k
  have hx := u64_xor hgl (show n < 18446744073709551616 by omega)
  have hX : (((l.getD k 0) ^^^ n) * 1099511628211 % 18446744073709551616) < 18446744073709551616 := Nat.mod_lt _ (by omega)
  have hX2 : (((l.getD k 0) ^^^ n) * 1099511628211 % 18446744073709551616) / 4294967296 ≤ (((l.getD k 0) ^^^ n) * 1099511628211 % 18446744073709551616) := Nat.div_le_self _ _
  refine g_seq ?_
  refine g_region ?_
  refine l_of (s_val (v := .bool (decide (((k : Int) : Int) < 4))) (wt0 rfl) rfl rfl (x_bin rfl rfl rfl b_lss) ?_)
  refine g_nil ?_
  refine g_then ?_
  refine g_seq ?_
  by_cases hb7 : ((k : Int) : Int) < 4
  · skip
    refine g_cond_t rfl (decide_eq_true hb7) ?_
    refine g_skip ?_
    refine g_then ?_
    refine g_seq ?_
    refine g_block ?_
    refine g_seq ?_
    refine g_region ?_
    refine l_of (s_val (v := .int .u64 ((((l.getD k 0) : Nat) : Int))) (wt0 rfl) rfl rfl (x_indexW k rfl rfl rfl Tryz.underlying116 sz115 Tryz.underlying115 rfl (by omega) (lanV_at (by omega))) ?_)
    refine l_of (s_val (v := .int .u64 ((((l.getD k 0) : Nat) : Int))) (wt0 rfl) rfl rfl (x_assign rfl rfl) ?_)
    refine g_nil ?_
    refine g_then ?_
    refine g_seq ?_
    refine g_region ?_
    refine l_of (s_val (v := .int .u64 ((((l.getD k 0) : Nat) : Int))) (wt0 rfl) rfl rfl (x_move rfl rfl) ?_)
    refine l_of (s_val (v := .int .i64 ((n : Int))) (wt0 rfl) rfl rfl (x_move rfl rfl) ?_)
    refine l_of (s_val (v := .int .u64 ((n : Int))) (wt0 rfl) rfl rfl (x_conv rfl rfl Tryz.underlying3 Tryz.underlying115 (wrapU (by omega))) ?_)
    refine l_of (s_val (v := .int .u64 ((((l.getD k 0) ^^^ n : Nat) : Int))) (wt0 rfl) rfl rfl (x_bin rfl rfl rfl (b_xorU (a := (l.getD k 0)) (b := n) (by omega))) ?_)
    refine l_of (s_val (v := .int .u64 ((((((l.getD k 0) ^^^ n) * 1099511628211 % 18446744073709551616) : Nat) : Int))) (wt0 rfl) rfl rfl (x_bin rfl rfl rfl (b_mulU ((l.getD k 0) ^^^ n) 1099511628211)) ?_)
    refine l_of (s_val (v := .int .u64 ((((((l.getD k 0) ^^^ n) * 1099511628211 % 18446744073709551616) : Nat) : Int))) (wt0 rfl) rfl rfl (x_assign rfl rfl) ?_)
    refine g_nil ?_
    refine g_then ?_
    refine g_seq ?_
    refine g_region ?_
    refine l_of (s_val (v := .int .u64 ((((((l.getD k 0) ^^^ n) * 1099511628211 % 18446744073709551616) : Nat) : Int))) (wt0 rfl) rfl rfl (x_move rfl rfl) ?_)
    refine l_of (s_val (v := .int .u64 ((((((l.getD k 0) ^^^ n) * 1099511628211 % 18446744073709551616) : Nat) : Int))) (wt0 rfl) rfl rfl (x_move rfl rfl) ?_)
    refine l_of (s_val (v := .int .u64 ((((((l.getD k 0) ^^^ n) * 1099511628211 % 18446744073709551616) / 4294967296 : Nat) : Int))) (wt0 rfl) rfl rfl (x_bin rfl rfl rfl (b_shrN (a := (((l.getD k 0) ^^^ n) * 1099511628211 % 18446744073709551616)) (n := 32) (by decide))) ?_)
    refine l_of (s_val (v := .int .u64 ((((((l.getD k 0) ^^^ n) * 1099511628211 % 18446744073709551616) ^^^ (((l.getD k 0) ^^^ n) * 1099511628211 % 18446744073709551616) / 4294967296 : Nat) : Int))) (wt0 rfl) rfl rfl (x_bin rfl rfl rfl (b_xorU (a := (((l.getD k 0) ^^^ n) * 1099511628211 % 18446744073709551616)) (b := (((l.getD k 0) ^^^ n) * 1099511628211 % 18446744073709551616) / 4294967296) (by omega))) ?_)
    refine l_of (s_val (v := .int .u64 ((((((l.getD k 0) ^^^ n) * 1099511628211 % 18446744073709551616) ^^^ (((l.getD k 0) ^^^ n) * 1099511628211 % 18446744073709551616) / 4294967296 : Nat) : Int))) (wt0 rfl) rfl rfl (x_assign rfl rfl) ?_)
    refine g_nil ?_
    refine g_then ?_
    refine g_region ?_
    refine l_of (s_val (v := .slice q ((8 * k) : Nat) d) (wt0 rfl) rfl rfl (x_move rfl rfl) ?_)
    refine l_of (s_val (v := .int .u64 ((((((l.getD k 0) ^^^ n) * 1099511628211 % 18446744073709551616) ^^^ (((l.getD k 0) ^^^ n) * 1099511628211 % 18446744073709551616) / 4294967296 : Nat) : Int))) (wt0 rfl) rfl rfl (x_move rfl rfl) ?_)
    refine l_of (s_val (v := .int .u64 (((endT (l.getD k 0) n : Nat) : Int))) (wt0 rfl) rfl rfl (x_bin rfl rfl rfl (b_mulU ((((l.getD k 0) ^^^ n) * 1099511628211 % 18446744073709551616) ^^^ (((l.getD k 0) ^^^ n) * 1099511628211 % 18446744073709551616) / 4294967296) 1099511628211)) ?_)
    refine l_of (s_call (wt0 rfl) (x_call' rfl rfl cl93) (eight_h _ (endT_lt _ _) _) ?_)
    rintro _ wq10 ⟨p8, c9, rfl, H11⟩
    replace H11 : S wq10 [Rw 5 1 p8 8 c9 (nbL (eightT (endT (l.getD k 0) n))), Rw 5 1 q (8 * k) d (nbL (sumTo l n k)), Old w no] := H6.absorb (new := [Rw 5 1 p8 8 c9 (nbL (eightT (endT (l.getD k 0) n)))]) H11
    refine b_ret rfl rfl ?_
    refine l_of (s_appendW (n := 8 * k) (m := 8) (sc := d) (xs := nbL (sumTo l n k)) (news := nbL (eightT (endT (l.getD k 0) n))) (p := q) (q := p8) H11 1 (wt0 rfl) rfl rfl rfl rfl rfl rfl Tryz.underlying130 inf5 rfl (by decide) (by decide) (H11.rwReads (k := 0) rfl) (nbL_one _) (by omega) ?_)
    intro p12 c13 wq14 H15
    replace H15 : S wq14 [Rw 5 1 p8 8 c9 (nbL (eightT (endT (l.getD k 0) n))), Rw 5 1 p12 (8 * k + 8) c13 (nbL (sumTo l n k) ++ nbL (eightT (endT (l.getD k 0) n))), Old w no] := H15
    refine l_of (s_val (v := .slice p12 ((8 * k + 8) : Nat) c13) (wt0 rfl) rfl rfl (x_assign rfl rfl) ?_)
    refine g_nil ?_
    refine g_in ?_
    refine g_then ?_
    refine g_weak [(1, .int .i64 ((n : Int))), (5, .slice p12 ((8 * k + 8) : Nat) c13), (9, .agg (lanV l)), (10, .int .i64 ((k : Int)))] ⟨rfl, rfl, rfl, rfl, trivial⟩ ?_
    refine g_region ?_
    refine l_of (s_val (v := .int .i64 ((k : Int) + 1)) (wt0 rfl) rfl rfl (x_bin rfl rfl rfl (b_add (w64 (by omega)))) ?_)
    refine l_of (s_val (v := .int .i64 ((k : Int) + 1)) (wt0 rfl) rfl rfl (x_move rfl rfl) ?_)
    refine g_nil ?_
    refine g_then ?_
    refine g_round (i := (k, q, d)) (k + 1, p12, c13) ?_ ?_ ?_
    · exact ⟨rfl, rfl, rfl, rfl, trivial⟩
    · exact ⟨by omega, (by rw [show 8 * (k + 1) = 8 * k + 8 from by omega, sumTo_next (by omega), nbL_app]; exact (H15.takes [1, 2] (by decide)))⟩
    · (try dsimp only); omega
  · skip
    refine g_cond_f rfl (decide_eq_false hb7) ?_
    refine g_exit ?_
    refine g_then_exit ?_
    refine g_then_exit ?_
    refine g_in_hit ?_
    refine g_then ?_
    refine g_seq ?_
    refine g_region ?_
    refine l_of (s_val (v := .slice q ((8 * k) : Nat) d) (wt0 rfl) rfl rfl (x_move rfl rfl) ?_)
    refine l_of (s_val (v := .string ((nbS (sumTo l n k)))) (wt0 rfl) rfl rfl (x_bytesR (l := (sumTo l n k).map UInt8.ofNat) rfl rfl Tryz.underlying130 Tryz.underlying9 Tryz.underlying5 (bytes_row (sumTo_lt l n k) (H6.rwReads (k := 0) rfl)) (by rw [List.length_map, sumTo_len l n k (by omega)])) ?_)
    refine l_of (s_val (v := .string ((nbS (sumTo l n k)))) (wt0 rfl) rfl rfl (x_assign rfl rfl) ?_)
    refine g_nil ?_
    refine g_then ?_
    refine g_ret ?_
    refine fin_ret [.tmp 4] [.string ((nbS (sumTo l n k)))] rfl ⟨rfl, trivial⟩ ?_
    have hk4 : k = 4 := by omega
    subst hk4
    exact ⟨rfl, H6.mask [false, true]⟩
set_option maxRecDepth 20000 in
set_option maxHeartbeats 4000000 in
set_option maxRecDepth 20000 in
set_option maxHeartbeats 4000000 in
theorem sumh_h (gh n : Nat) (l : List Nat) (hl : l.length = 4) (hlt : ∀ x ∈ l, x < 18446744073709551616) (hn : n ≤ 1099511627776) (w : World) (HB : S w [Ob gh (.cells (hashV l n) 121 (0, 0))]) : Calls Tryz.prog 65 #[.pointer (some ⟨gh, 0, none⟩)] w fun e w' => e = .returned (.string (nbS (sumTo l n 4))) ∧ S w' ([Ob gh (.cells (hashV l n) 121 (0, 0))] ++ [Old w (fps [Ob gh (.cells (hashV l n) 121 (0, 0))])]) := by
  have H0 : S w [Ob gh (.cells (hashV l n) 121 (0, 0)), Old w (fps [Ob gh (.cells (hashV l n) 121 (0, 0))])] := HB.beginI
  refine enter 14 Tryz.func65 rfl rfl rfl ?_
  refine g_weak [(0, .pointer (some ⟨gh, 0, none⟩))] ⟨rfl, trivial⟩ ?_
  refine g_seq ?_
  refine g_region ?_
  refine l_of (s_val (v := .string (⟨#[]⟩)) (wt0 rfl) rfl rfl (x_assign rfl rfl) ?_)
  refine g_nil ?_
  refine g_then ?_
  refine g_seq ?_
  refine g_seq ?_
  refine g_region ?_
  refine l_of (s_val (v := .pointer (some ⟨gh, 0, none⟩)) (wt0 rfl) rfl rfl (x_move rfl rfl) ?_)
  refine l_of (s_val (v := .bool false) (wt0 rfl) rfl rfl (x_bin rfl rfl rfl (b_eqN (r := false) Tryz.underlying100 rfl)) ?_)
  refine g_nil ?_
  refine g_then ?_
  refine g_cond_f rfl rfl ?_
  refine g_skip ?_
  refine g_then ?_
  refine g_seq ?_
  refine g_quiet (by kernel_rfl) (by kernel_rfl) H0 ?_
  refine q_val (v := .pointer (some ⟨gh, 0, none⟩)) (wt0 rfl) rfl rfl (fun wx H => x_move rfl rfl) ?_
  refine q_val (v := .pointer (some ⟨gh, 0, none⟩)) (wt0 rfl) rfl rfl (fun wx H => x_nilCheck rfl rfl) ?_
  refine q_val (v := .pointer (some ⟨gh, 0, none⟩)) (wt0 rfl) rfl rfl (fun wx H => x_fieldAddr rfl rfl fo121_0 rfl) ?_
  refine q_val (v := .agg (lanV l)) (wt0 rfl) rfl rfl (fun wx H => x_loadA H 0 rfl rfl Tryz.underlying118 rfl sz118 rfl (Nat.ble_eq_true_of_le (by rw [hashV_size]; omega)) (hashV_ext hl)) ?_
  refine q_val (v := .pointer (some ⟨gh, 0, none⟩)) (wt0 rfl) rfl rfl (fun wx H => x_move rfl rfl) ?_
  refine q_val (v := .pointer (some ⟨gh, 0, none⟩)) (wt0 rfl) rfl rfl (fun wx H => x_nilCheck rfl rfl) ?_
  refine q_val (v := .pointer (some ⟨gh, 4, none⟩)) (wt0 rfl) rfl rfl (fun wx H => x_fieldAddr rfl rfl fo121_1 rfl) ?_
  refine q_val (v := .int .i64 ((n : Int))) (wt0 rfl) rfl rfl (fun wx H => x_load1 H 0 rfl rfl Tryz.underlying3 rfl rfl (hashV_at (by first | omega | (simp only [List.length_map, takeTo_len]; omega)))) ?_
  refine q_call (wt0 rfl) rfl rfl (fun wx H => x_call' rfl rfl cl82) (fun wx H => (ended_h n l hl hlt hn _).mono (by rintro _ _ ⟨rfl, h⟩; exact ⟨rfl, H.absorb (new := []) h⟩)) ?_
  refine q_val (v := .string ((nbS (sumTo l n 4)))) (wt0 rfl) rfl rfl (fun wx H => x_assign rfl rfl) ?_
  refine q_nil (fun wq1 H2 => ?_)
  refine g_then ?_
  refine g_weak [(2, .string ((nbS (sumTo l n 4))))] ⟨rfl, trivial⟩ ?_
  refine g_ret ?_
  refine fin_ret [.tmp 2] [.string ((nbS (sumTo l n 4)))] rfl ⟨rfl, trivial⟩ ?_
  exact ⟨rfl, H2.mask [true, true]⟩
set_option maxRecDepth 20000 in
set_option maxHeartbeats 4000000 in
theorem sum_h (s : ByteArray) (hs : s.size ≤ 1099511627776) (w : World) : Calls Tryz.prog 26 #[.string s] w fun e w' => e = .returned (.string (sumS s)) ∧ S w' [Old w no] := by
  have H0 := S.old w
  refine enter 10 Tryz.func26 rfl rfl rfl ?_
  refine g_weak [(0, .string s)] ⟨rfl, trivial⟩ ?_
  refine g_seq ?_
  refine g_region ?_
  refine l_of (s_val (v := .string (⟨#[]⟩)) (wt0 rfl) rfl rfl (x_assign rfl rfl) ?_)
  refine g_nil ?_
  refine g_then ?_
  refine g_seq ?_
  refine g_region ?_
  refine l_of (s_call (wt0 rfl) (x_call' rfl rfl cl63) (newh_h _) ?_)
  rintro _ wq1 ⟨gh, rfl, H2⟩
  replace H2 : S wq1 [Ob gh (.cells (hashV begL 0) 121 (0, 0)), Old w no] := H0.absorb (new := [Ob gh (.cells (hashV begL 0) 121 (0, 0))]) H2
  refine b_ret rfl rfl ?_
  refine l_of (s_val (v := .pointer (some ⟨gh, 0, none⟩)) (wt0 rfl) rfl rfl (x_assign rfl rfl) ?_)
  refine g_nil ?_
  refine g_then ?_
  refine g_seq ?_
  refine g_region ?_
  refine l_of (s_val (v := .pointer (some ⟨gh, 0, none⟩)) (wt0 rfl) rfl rfl (x_move rfl rfl) ?_)
  refine l_of (s_val (v := .string s) (wt0 rfl) rfl rfl (x_move rfl rfl) ?_)
  refine l_of (s_call (wt0 rfl) (x_call' rfl rfl cl64) (addh_h gh 0 begL begL_len begL_lt s hs (by omega) _ (H2.takes [0] (by decide))) ?_)
  rintro _ wq3 ⟨rfl, H4⟩
  replace H4 : S wq3 [Ob gh (.cells (hashV (begL.map (laneP s · s.size)) (0 + s.size)) 121 (0, 0)), Old w no] := H2.absorbI (new := [Ob gh (.cells (hashV (begL.map (laneP s · s.size)) (0 + s.size)) 121 (0, 0))]) [0] H4
  refine b_ret rfl rfl ?_
  refine g_nil ?_
  refine g_then ?_
  refine g_seq ?_
  refine g_region ?_
  refine l_of (s_val (v := .pointer (some ⟨gh, 0, none⟩)) (wt0 rfl) rfl rfl (x_move rfl rfl) ?_)
  refine l_of (s_call (wt0 rfl) (x_call' rfl rfl cl65) (sumh_h gh (0 + s.size) (begL.map (laneP s · s.size)) (by rw [List.length_map, begL_len]) (lanes_lt begL_lt s.size) (by omega) _ (H4.takes [0] (by decide))) ?_)
  rintro _ wq5 ⟨rfl, H6⟩
  replace H6 : S wq5 [Ob gh (.cells (hashV (begL.map (laneP s · s.size)) (0 + s.size)) 121 (0, 0)), Old w no] := H4.absorbI (new := [Ob gh (.cells (hashV (begL.map (laneP s · s.size)) (0 + s.size)) 121 (0, 0))]) [0] H6
  refine b_ret rfl rfl ?_
  refine l_of (s_val (v := .string ((nbS (sumTo (begL.map (laneP s · s.size)) (0 + s.size) 4)))) (wt0 rfl) rfl rfl (x_assign rfl rfl) ?_)
  refine g_nil ?_
  refine g_then ?_
  refine g_ret ?_
  refine fin_ret [.tmp 2] [.string ((nbS (sumTo (begL.map (laneP s · s.size)) (0 + s.size) 4)))] rfl ⟨rfl, trivial⟩ ?_
  exact ⟨by rw [Nat.zero_add]; rfl, H6.mask [false, true]⟩
set_option maxRecDepth 20000 in
set_option maxHeartbeats 4000000 in
theorem pair_h (a b : ByteArray) (hs : a.size + b.size ≤ 1099511627776) (w : World) : Calls Tryz.prog 28 #[.string a, .string b] w fun e w' => e = .returned (.string (pairS a b)) ∧ S w' [Old w no] := by
  have H0 := S.old w
  refine enter 9 Tryz.func28 rfl rfl rfl ?_
  refine g_weak [(0, .string a), (1, .string b)] ⟨rfl, rfl, trivial⟩ ?_
  refine g_seq ?_
  refine g_region ?_
  refine l_of (s_val (v := .string (⟨#[]⟩)) (wt0 rfl) rfl rfl (x_assign rfl rfl) ?_)
  refine g_nil ?_
  refine g_then ?_
  refine g_seq ?_
  refine g_region ?_
  refine l_of (s_val (v := .string a) (wt0 rfl) rfl rfl (x_move rfl rfl) ?_)
  refine l_of (s_val (v := .string b) (wt0 rfl) rfl rfl (x_move rfl rfl) ?_)
  have hsz1 : (a ++ b).size = a.size + b.size := ByteArray.size_append
  refine l_of (s_val (v := .string (a ++ b)) (wt0 rfl) rfl rfl (x_bin rfl rfl rfl (b_cat (by omega))) ?_)
  refine l_of (s_call (wt0 rfl) (x_call' rfl rfl cl26) (sum_h _ (by omega) _) ?_)
  rintro _ wq2 ⟨rfl, H3⟩
  replace H3 : S wq2 [Old w no] := H0.absorb (new := []) H3
  refine b_ret rfl rfl ?_
  refine l_of (s_val (v := .string ((sumS (a ++ b)))) (wt0 rfl) rfl rfl (x_assign rfl rfl) ?_)
  refine g_nil ?_
  refine g_then ?_
  refine g_ret ?_
  refine fin_ret [.tmp 4] [.string ((sumS (a ++ b)))] rfl ⟨rfl, trivial⟩ ?_
  exact ⟨rfl, H3.mask [true]⟩
set_option maxRecDepth 20000 in
set_option maxHeartbeats 4000000 in
theorem zero_h   (w : World) : Calls Tryz.prog 29 #[] w fun e w' => e = .returned (.string zeroB) ∧ S w' [Old w no] := by
  have H0 := S.old w
  refine enter 2 Tryz.func29 rfl rfl rfl ?_
  refine g_weak [] trivial ?_
  refine g_seq ?_
  refine g_region ?_
  refine l_of (s_val (v := .string (⟨#[]⟩)) (wt0 rfl) rfl rfl (x_assign rfl rfl) ?_)
  refine g_nil ?_
  refine g_then ?_
  refine g_seq ?_
  refine g_region ?_
  refine l_of (s_call (wt0 rfl) (x_call' rfl rfl cl67) (Go.Proofs.Tryz.strings_Repeat ⟨#[0]⟩ 32 _ (by decide) (by decide)) ?_)
  rintro _ wq1 ⟨rfl, H2⟩
  replace H2 : S wq1 [Old w no] := H0.absorb (new := []) (S.of_below H2)
  refine b_ret rfl rfl ?_
  refine l_of (s_val (v := .string ((⟨(Lib.repeatL (⟨#[0]⟩ : ByteArray).data.toList 32).toArray⟩ : ByteArray))) (wt0 rfl) rfl rfl (x_assign rfl rfl) ?_)
  refine g_nil ?_
  refine g_then ?_
  refine g_ret ?_
  refine fin_ret [.tmp 0] [.string ((⟨(Lib.repeatL (⟨#[0]⟩ : ByteArray).data.toList 32).toArray⟩ : ByteArray))] rfl ⟨rfl, trivial⟩ ?_
  exact ⟨rfl, H2.mask [true]⟩
end Go.Proofs.YtlajgickimgigaaGreat
namespace Go.Proofs.YtlajgickimgigaaGreat
open Go.RowKit

/-! ## Trees, in plain words -/
def stV (l : List ByteArray) : List Value := l.map Value.string
theorem stV_len (l : List ByteArray) : (stV l).length = l.length := by unfold stV; simp
theorem stV_snoc (l : List ByteArray) (x : ByteArray) : stV (l ++ [x]) = stV l ++ [Value.string x] := by unfold stV; simp
theorem stV_app (l m : List ByteArray) : stV (l ++ m) = stV l ++ stV m := by unfold stV; simp
theorem stV_at {l : List ByteArray} {j : Nat} (h : j < l.length) : (stV l)[j * 1]? = some (.string (l.getD j ⟨#[]⟩)) := by
  unfold stV; rw [Nat.mul_one, List.getElem?_map, List.getD_eq_getElem?_getD, List.getElem?_eq_getElem h]; rfl
theorem stV_one (l : List ByteArray) : (stV l).all (·.oneCell') = true := by
  unfold stV; rw [List.all_eq_true]; intro v hv
  obtain ⟨x, _, rfl⟩ := List.mem_map.1 hv; rfl
def digsB (l : List ByteArray) : Bool := l.all (fun s => decide (s.size = 32))
theorem digs_mem {l : List ByteArray} (h : digsB l = true) {s : ByteArray} (hs : s ∈ l) : s.size = 32 := by
  unfold digsB at h; rw [List.all_eq_true] at h; simpa using h s hs
theorem digs_get {l : List ByteArray} (h : digsB l = true) {i : Nat} (hi : i < l.length) : (l.getD i ⟨#[]⟩).size = 32 := by
  rw [List.getD_eq_getElem?_getD, List.getElem?_eq_getElem hi]; exact digs_mem h (List.getElem_mem hi)
theorem digs_no {l : List ByteArray} {i : Nat} (hi : i < l.length) (h : ¬ (l.getD i ⟨#[]⟩).size = 32) : digsB l = false := by
  cases hd : digsB l with
  | false => rfl
  | true => exact absurd (digs_get hd hi) h
theorem digs_yes {l : List ByteArray} (h : ∀ i, i < l.length → (l.getD i ⟨#[]⟩).size = 32) : digsB l = true := by
  unfold digsB; rw [List.all_eq_true]
  intro s hs
  obtain ⟨i, hi, rfl⟩ := List.getElem_of_mem hs
  have := h i hi
  rw [List.getD_eq_getElem?_getD, List.getElem?_eq_getElem hi] at this
  simpa using this
/-- The height of a tree. -/
def tallN (n : Nat) : Nat := ((List.range 64).find? (fun h => decide (n ≤ 2 ^ h))).getD 0
theorem tallN_of {n h : Nat} (hh : h < 64) (h1 : n ≤ 2 ^ h) (h2 : ∀ j, j < h → 2 ^ j < n) : tallN n = h := by
  have : (List.range 64).find? (fun h => decide (n ≤ 2 ^ h)) = some h := by
    refine List.find?_eq_some_iff_getElem.2 ⟨by simpa using h1, h, by simpa using hh, by simp, fun j hj => ?_⟩
    simp only [List.getElem_range, Bool.not_eq_true', decide_eq_false_iff_not]
    have := h2 j hj; omega
  unfold tallN; rw [this]; rfl
theorem tall_spec {n : Nat} (hn : n ≤ 1099511627776) : n ≤ 2 ^ tallN n ∧ (∀ j, j < tallN n → 2 ^ j < n) ∧ tallN n ≤ 40 := by
  have h40 : n ≤ 2 ^ 40 := hn
  cases hq : (List.range 64).find? (fun h => decide (n ≤ 2 ^ h)) with
  | none =>
    have := List.find?_eq_none.1 hq 40 (by simp)
    simp at this; omega
  | some h =>
    obtain ⟨h1, k, hk, he, h3⟩ := List.find?_eq_some_iff_getElem.1 hq
    have hkh : k = h := by simpa using he
    subst hkh
    have e : tallN n = k := by unfold tallN; rw [hq]; rfl
    rw [e]
    have h1' : n ≤ 2 ^ k := by simpa using h1
    refine ⟨h1', fun j hj => ?_, ?_⟩
    · have := h3 j hj
      simp only [List.getElem_range, Bool.not_eq_true', decide_eq_false_iff_not] at this
      omega
    · rcases Nat.lt_or_ge 40 k with h | h
      · have := h3 40 h
        simp only [List.getElem_range, Bool.not_eq_true', decide_eq_false_iff_not] at this
        omega
      · exact h
def countN (n v : Nat) : Nat := (n - 1) / 2 ^ v + 1
def zeroS : Nat → ByteArray
  | 0 => zeroB
  | v + 1 => pairS (zeroS v) (zeroS v)
theorem zeroS_size : ∀ v, (zeroS v).size = 32
  | 0 => by rw [zeroS]; unfold zeroB; rw [nbS_size]; simp
  | v + 1 => pairS_size _ _
/-- The level above one. -/
def upS : List ByteArray → List ByteArray
  | a :: b :: l => pairS a b :: upS l
  | _ => []
theorem upS_len : ∀ l : List ByteArray, (upS l).length = l.length / 2
  | [] => by simp [upS]
  | [a] => by simp [upS]
  | a :: b :: l => by rw [upS, List.length_cons, upS_len l, List.length_cons, List.length_cons]; omega
/-- Its first k nodes. -/
def upTo (l : List ByteArray) (k : Nat) : List ByteArray := (List.range k).map (fun i => pairS (l.getD (2 * i) ⟨#[]⟩) (l.getD (2 * i + 1) ⟨#[]⟩))
theorem upTo_next (l : List ByteArray) (k : Nat) : upTo l (k + 1) = upTo l k ++ [pairS (l.getD (2 * k) ⟨#[]⟩) (l.getD (2 * k + 1) ⟨#[]⟩)] := by unfold upTo; simp [List.range_succ]
theorem upTo_len (l : List ByteArray) (k : Nat) : (upTo l k).length = k := by unfold upTo; simp
theorem upTo_all : ∀ l : List ByteArray, upTo l (l.length / 2) = upS l
  | [] => by simp [upS, upTo]
  | [a] => by simp [upS, upTo]
  | a :: b :: l => by
    have ih := upTo_all l
    rw [upS, ← ih]
    have e : (a :: b :: l).length / 2 = l.length / 2 + 1 := by rw [List.length_cons, List.length_cons]; omega
    rw [e]
    unfold upTo
    rw [List.range_succ_eq_map, List.map_cons, List.map_map]
    rfl
/-- k levels up. -/
def upN : Nat → List ByteArray → List ByteArray
  | 0, l => l
  | k + 1, l => upN k (upS l)
theorem upS_size {l : List ByteArray} : ∀ s ∈ upS l, s.size = 32 := by
  intro s hs
  rw [← upTo_all] at hs
  unfold upTo at hs
  obtain ⟨i, _, rfl⟩ := List.mem_map.1 hs
  exact pairS_size _ _
theorem upS_digs (l : List ByteArray) : digsB (upS l) = true := by
  unfold digsB; rw [List.all_eq_true]; intro s hs; simpa using upS_size s hs
/-- What FromLayer answers. -/
def rangeT (n level : Int) : Bool := decide (1 ≤ n) && decide (n ≤ 4096) && decide (0 ≤ level) && decide (level ≤ (tallN n.toNat : Int))
def rowT (n v : Nat) (l : List ByteArray) : List ByteArray := l ++ List.replicate (2 ^ (tallN n - v) - l.length) (zeroS v)
def fromS (n level : Int) (l : List ByteArray) : ByteArray × Int :=
  if digsB l = true then
    if rangeT n level = true then
      if (l.length : Int) = (countN n.toNat level.toNat : Int) then ((upN (tallN n.toNat - level.toNat) (rowT n.toNat level.toNat l)).getD 0 ⟨#[]⟩, 0)
      else (⟨#[]⟩, 11)
    else (⟨#[]⟩, 7)
  else (⟨#[]⟩, 1)
end Go.Proofs.YtlajgickimgigaaGreat
namespace Go.Proofs.YtlajgickimgigaaGreat
open Go.RowKit

theorem cl38 : callable Tryz.prog 38 = true := by kernel_rfl
theorem cl40 : callable Tryz.prog 40 = true := by kernel_rfl
theorem cl73 : callable Tryz.prog 73 = true := by kernel_rfl
theorem cl74 : callable Tryz.prog 74 = true := by kernel_rfl
theorem sz9 : szO Tryz.prog 9 = some 1 := by kernel_rfl
set_option maxRecDepth 20000 in
set_option maxHeartbeats 4000000 in
set_option maxRecDepth 20000 in
set_option maxHeartbeats 4000000 in
theorem digests_r (l : List ByteArray) (p : Option Addr) (n c : Nat) (hn : n = l.length) (hm : n ≤ 1099511627776) (w : World) (hr : Reads w p n c 1 (stV l)) : Calls Tryz.prog 49 #[.slice p n c] w fun e w' => e = .returned (.bool (digsB l)) ∧ S w' [Old w no] := by
  have H0 := S.old w
  refine enter 15 Tryz.func49 rfl rfl rfl ?_
  refine g_weak [(0, .slice p n c)] ⟨rfl, trivial⟩ ?_
  refine g_seq ?_
  refine g_region ?_
  refine l_of (s_val (v := .bool false) (wt0 rfl) rfl rfl (x_assign rfl rfl) ?_)
  refine g_nil ?_
  refine g_then ?_
  refine g_seq ?_
  refine g_seq ?_
  refine g_region ?_
  refine l_of (s_val (v := .slice p n c) (wt0 rfl) rfl rfl (x_move rfl rfl) ?_)
  refine l_of (s_val (v := .int .i64 ((n : Int))) (wt0 rfl) rfl rfl (x_lenl rfl rfl Tryz.underlying22) ?_)
  refine l_of (s_val (v := .int .i64 0) (wt0 rfl) rfl rfl (x_move rfl rfl) ?_)
  refine g_nil ?_
  refine g_then ?_
  refine g_block ?_
  refine g_loop (ι := Nat) (fun i => [(5, .slice p n c), (6, .int .i64 ((n : Int))), (7, .int .i64 ((i : Int)))]) (fun i wx => (i ≤ n) ∧ (∀ j, j < i → (l.getD j ⟨#[]⟩).size = 32) ∧ S wx [Old w no]) (fun i => n - i) (0) ⟨rfl, rfl, rfl, trivial⟩ ⟨Nat.zero_le _, (fun j h => by omega), H0⟩ ?_
  rintro i wq1 ⟨hi, hno, H2⟩
  replace H2 : S wq1 [Old w no] := H2
  refine g_weak [(5, .slice p n c), (6, .int .i64 ((n : Int))), (7, .int .i64 ((i : Int)))] ⟨rfl, rfl, rfl, trivial⟩ ?_
  refine g_seq ?_
  refine g_region ?_
  refine l_of (s_val (v := .bool (decide (((i : Int) : Int) < (n : Int)))) (wt0 rfl) rfl rfl (x_bin rfl rfl rfl b_lss) ?_)
  refine g_nil ?_
  refine g_then ?_
  refine g_seq ?_
  by_cases hb3 : ((i : Int) : Int) < (n : Int)
  · skip
    refine g_cond_t rfl (decide_eq_true hb3) ?_
    refine g_skip ?_
    refine g_then ?_
    refine g_seq ?_
    refine g_block ?_
    refine g_seq ?_
    refine g_region ?_
    refine l_of (s_val (v := .pointer ((p).map fun q => q.add (i * 1))) (wt0 rfl) rfl rfl (x_idxR i (H2.oldReads (k := 0) rfl hr) rfl rfl rfl Tryz.underlying22 sz9 (by omega)) ?_)
    refine l_of (s_val (v := .string ((l.getD (i) ⟨#[]⟩))) (wt0 rfl) rfl rfl (x_loadR1 i (H2.oldReads (k := 0) rfl hr) (by omega) rfl rfl Tryz.underlying9 rfl (stV_at (by omega))) ?_)
    refine l_of (s_val (v := .string ((l.getD (i) ⟨#[]⟩))) (wt0 rfl) rfl rfl (x_assign rfl rfl) ?_)
    refine g_nil ?_
    refine g_then ?_
    refine g_seq ?_
    refine g_region ?_
    refine l_of (s_val (v := .string ((l.getD (i) ⟨#[]⟩))) (wt0 rfl) rfl rfl (x_move rfl rfl) ?_)
    refine l_of (s_val (v := .int .i64 (((l.getD (i) ⟨#[]⟩).size : Int))) (wt0 rfl) rfl rfl (x_lens rfl rfl Tryz.underlying9) ?_)
    refine l_of (s_val (v := .bool (!decide ((((l.getD (i) ⟨#[]⟩).size : Int) : Int) = 32))) (wt0 rfl) rfl rfl (x_bin rfl rfl rfl b_neq) ?_)
    refine g_nil ?_
    refine g_then ?_
    by_cases hb4 : (((l.getD (i) ⟨#[]⟩).size : Int) : Int) = 32
    · skip
      refine g_cond_f rfl (nf hb4) ?_
      refine g_skip ?_
      refine g_in ?_
      refine g_then ?_
      refine g_region ?_
      refine l_of (s_val (v := .int .i64 ((i : Int) + 1)) (wt0 rfl) rfl rfl (x_bin rfl rfl rfl (b_add (w64 (by omega)))) ?_)
      refine l_of (s_val (v := .int .i64 ((i : Int) + 1)) (wt0 rfl) rfl rfl (x_move rfl rfl) ?_)
      refine g_nil ?_
      refine g_then ?_
      refine g_round (i := (i)) (i + 1) ?_ ?_ ?_
      · exact ⟨rfl, rfl, rfl, trivial⟩
      · exact ⟨by omega, (fun j h => by rcases Nat.lt_succ_iff_lt_or_eq.1 h with h | rfl; exact hno j h; have := hb4; omega), H2⟩
      · (try dsimp only); omega
    · skip
      refine g_cond_t rfl (nt hb4) ?_
      refine g_seq ?_
      refine g_region ?_
      refine l_of (s_val (v := .bool false) (wt0 rfl) rfl rfl (x_assign rfl rfl) ?_)
      refine g_nil ?_
      refine g_then ?_
      refine g_ret ?_
      refine g_in_ret ?_
      refine g_then_ret ?_
      refine g_then_ret ?_
      refine g_in_ret ?_
      refine g_then_ret ?_
      refine fin_ret [.tmp 2] [.bool false] rfl ⟨rfl, trivial⟩ ?_
      exact ⟨by rw [digs_no (i := i) (by omega) (fun h => hb4 (by omega))]; rfl, H2.mask [true]⟩
  · skip
    refine g_cond_f rfl (decide_eq_false hb3) ?_
    refine g_exit ?_
    refine g_then_exit ?_
    refine g_then_exit ?_
    refine g_in_hit ?_
    refine g_then ?_
    refine g_seq ?_
    refine g_region ?_
    refine l_of (s_val (v := .bool true) (wt0 rfl) rfl rfl (x_assign rfl rfl) ?_)
    refine g_nil ?_
    refine g_then ?_
    refine g_ret ?_
    refine fin_ret [.tmp 2] [.bool true] rfl ⟨rfl, trivial⟩ ?_
    exact ⟨by rw [digs_yes (fun j h => hno j (by omega))]; rfl, H2.mask [true]⟩
/-- Whether digests are few and short. -/
def fewB (l : List ByteArray) : Bool := l.all (fun s => decide (s.size ≤ 100)) && decide (l.length ≤ 70)
theorem few_no {l : List ByteArray} {i : Nat} (hi : i < l.length) (h : ¬ (l.getD i ⟨#[]⟩).size ≤ 100) : fewB l = false := by
  cases hd : fewB l with
  | false => rfl
  | true =>
    unfold fewB at hd
    rw [Bool.and_eq_true, List.all_eq_true] at hd
    have := hd.1 _ (List.getElem_mem hi)
    rw [List.getD_eq_getElem?_getD, List.getElem?_eq_getElem hi] at h
    simp at this; exact absurd this h
theorem few_yes {l : List ByteArray} (h : ∀ i, i < l.length → (l.getD i ⟨#[]⟩).size ≤ 100) : fewB l = decide (l.length ≤ 70) := by
  unfold fewB
  have : l.all (fun s => decide (s.size ≤ 100)) = true := by
    rw [List.all_eq_true]
    intro s hs
    obtain ⟨i, hi, rfl⟩ := List.getElem_of_mem hs
    have := h i hi
    rw [List.getD_eq_getElem?_getD, List.getElem?_eq_getElem hi] at this
    simpa using this
  rw [this, Bool.true_and]
set_option maxRecDepth 20000 in
set_option maxHeartbeats 4000000 in
set_option maxRecDepth 20000 in
set_option maxHeartbeats 4000000 in
theorem few_l (l : List ByteArray) (p : Option Addr) (n c : Nat) (hn : n = l.length) (hm : n ≤ 9223372036854775807) (w : World) (hr : Reads w p n c 1 (stV l)) : Calls Tryz.prog 4 #[.slice p n c] w fun e w' => e = .returned (.bool (fewB l)) ∧ S w' [Old w no] := by
  have H0 := S.old w
  refine enter 18 Tryz.func4 rfl rfl rfl ?_
  refine g_weak [(0, .slice p n c)] ⟨rfl, trivial⟩ ?_
  refine g_seq ?_
  refine g_region ?_
  refine l_of (s_val (v := .bool false) (wt0 rfl) rfl rfl (x_assign rfl rfl) ?_)
  refine g_nil ?_
  refine g_then ?_
  refine g_seq ?_
  refine g_seq ?_
  refine g_region ?_
  refine l_of (s_val (v := .slice p n c) (wt0 rfl) rfl rfl (x_move rfl rfl) ?_)
  refine l_of (s_val (v := .int .i64 ((n : Int))) (wt0 rfl) rfl rfl (x_lenl rfl rfl Tryz.underlying22) ?_)
  refine l_of (s_val (v := .int .i64 0) (wt0 rfl) rfl rfl (x_move rfl rfl) ?_)
  refine g_nil ?_
  refine g_then ?_
  refine g_block ?_
  refine g_loop (ι := Nat) (fun i => [(0, .slice p n c), (5, .slice p n c), (6, .int .i64 ((n : Int))), (7, .int .i64 ((i : Int)))]) (fun i wx => (i ≤ n) ∧ (∀ j, j < i → (l.getD j ⟨#[]⟩).size ≤ 100) ∧ S wx [Old w no]) (fun i => n - i) (0) ⟨rfl, rfl, rfl, rfl, trivial⟩ ⟨Nat.zero_le _, (fun j h => by omega), H0⟩ ?_
  rintro i wq1 ⟨hi, hno, H2⟩
  replace H2 : S wq1 [Old w no] := H2
  refine g_weak [(0, .slice p n c), (5, .slice p n c), (6, .int .i64 ((n : Int))), (7, .int .i64 ((i : Int)))] ⟨rfl, rfl, rfl, rfl, trivial⟩ ?_
  refine g_seq ?_
  refine g_region ?_
  refine l_of (s_val (v := .bool (decide (((i : Int) : Int) < (n : Int)))) (wt0 rfl) rfl rfl (x_bin rfl rfl rfl b_lss) ?_)
  refine g_nil ?_
  refine g_then ?_
  refine g_seq ?_
  by_cases hb3 : ((i : Int) : Int) < (n : Int)
  · skip
    refine g_cond_t rfl (decide_eq_true hb3) ?_
    refine g_skip ?_
    refine g_then ?_
    refine g_seq ?_
    refine g_block ?_
    refine g_seq ?_
    refine g_region ?_
    refine l_of (s_val (v := .pointer ((p).map fun q => q.add (i * 1))) (wt0 rfl) rfl rfl (x_idxR i (H2.oldReads (k := 0) rfl hr) rfl rfl rfl Tryz.underlying22 sz9 (by omega)) ?_)
    refine l_of (s_val (v := .string ((l.getD (i) ⟨#[]⟩))) (wt0 rfl) rfl rfl (x_loadR1 i (H2.oldReads (k := 0) rfl hr) (by omega) rfl rfl Tryz.underlying9 rfl (stV_at (by omega))) ?_)
    refine l_of (s_val (v := .string ((l.getD (i) ⟨#[]⟩))) (wt0 rfl) rfl rfl (x_assign rfl rfl) ?_)
    refine g_nil ?_
    refine g_then ?_
    refine g_seq ?_
    refine g_region ?_
    refine l_of (s_val (v := .string ((l.getD (i) ⟨#[]⟩))) (wt0 rfl) rfl rfl (x_move rfl rfl) ?_)
    refine l_of (s_val (v := .int .i64 (((l.getD (i) ⟨#[]⟩).size : Int))) (wt0 rfl) rfl rfl (x_lens rfl rfl Tryz.underlying9) ?_)
    refine l_of (s_val (v := .bool (decide ((100 : Int) < ((l.getD (i) ⟨#[]⟩).size : Int)))) (wt0 rfl) rfl rfl (x_bin rfl rfl rfl b_gtr) ?_)
    refine g_nil ?_
    refine g_then ?_
    by_cases hb4 : (100 : Int) < ((l.getD (i) ⟨#[]⟩).size : Int)
    · skip
      refine g_cond_t rfl (decide_eq_true hb4) ?_
      refine g_seq ?_
      refine g_region ?_
      refine l_of (s_val (v := .bool false) (wt0 rfl) rfl rfl (x_assign rfl rfl) ?_)
      refine g_nil ?_
      refine g_then ?_
      refine g_ret ?_
      refine g_in_ret ?_
      refine g_then_ret ?_
      refine g_then_ret ?_
      refine g_in_ret ?_
      refine g_then_ret ?_
      refine fin_ret [.tmp 2] [.bool false] rfl ⟨rfl, trivial⟩ ?_
      exact ⟨by rw [few_no (i := i) (by omega) (by omega)]; rfl, H2.mask [true]⟩
    · skip
      refine g_cond_f rfl (decide_eq_false hb4) ?_
      refine g_skip ?_
      refine g_in ?_
      refine g_then ?_
      refine g_region ?_
      refine l_of (s_val (v := .int .i64 ((i : Int) + 1)) (wt0 rfl) rfl rfl (x_bin rfl rfl rfl (b_add (w64 (by omega)))) ?_)
      refine l_of (s_val (v := .int .i64 ((i : Int) + 1)) (wt0 rfl) rfl rfl (x_move rfl rfl) ?_)
      refine g_nil ?_
      refine g_then ?_
      refine g_round (i := (i)) (i + 1) ?_ ?_ ?_
      · exact ⟨rfl, rfl, rfl, rfl, trivial⟩
      · exact ⟨by omega, (fun j h => by rcases Nat.lt_succ_iff_lt_or_eq.1 h with h | rfl; exact hno j h; have := hb4; omega), H2⟩
      · (try dsimp only); omega
  · skip
    refine g_cond_f rfl (decide_eq_false hb3) ?_
    refine g_exit ?_
    refine g_then_exit ?_
    refine g_then_exit ?_
    refine g_in_hit ?_
    refine g_then ?_
    refine g_seq ?_
    refine g_region ?_
    refine l_of (s_val (v := .slice p n c) (wt0 rfl) rfl rfl (x_move rfl rfl) ?_)
    refine l_of (s_val (v := .int .i64 ((n : Int))) (wt0 rfl) rfl rfl (x_lenl rfl rfl Tryz.underlying22) ?_)
    refine l_of (s_val (v := .bool (decide (((n : Int) : Int) ≤ 70))) (wt0 rfl) rfl rfl (x_bin rfl rfl rfl b_leq) ?_)
    refine l_of (s_val (v := .bool (decide (((n : Int) : Int) ≤ 70))) (wt0 rfl) rfl rfl (x_assign rfl rfl) ?_)
    refine g_nil ?_
    refine g_then ?_
    refine g_ret ?_
    refine fin_ret [.tmp 2] [.bool (decide (((n : Int) : Int) ≤ 70))] rfl ⟨rfl, trivial⟩ ?_
    have hd : decide ((n : Int) ≤ 70) = fewB l := by rw [few_yes (fun j h => hno j (by omega)), decide_eq_decide]; omega
    exact ⟨by rw [← hd]; rfl, H2.mask [true]⟩
set_option maxRecDepth 20000 in
set_option maxHeartbeats 4000000 in
theorem two_r (k : Nat) (hk : k ≤ 60) (w : World) : Calls Tryz.prog 40 #[.int .i64 ((k : Int))] w fun e w' => e = .returned (.int .i64 ((2 ^ k : Nat) : Int)) ∧ S w' [Old w no] := by
  have H0 := S.old w
  refine enter 11 Tryz.func40 rfl rfl rfl ?_
  refine g_weak [(0, .int .i64 ((k : Int)))] ⟨rfl, trivial⟩ ?_
  refine g_seq ?_
  refine g_region ?_
  refine l_of (s_val (v := .int .i64 0) (wt0 rfl) rfl rfl (x_assign rfl rfl) ?_)
  refine g_nil ?_
  refine g_then ?_
  refine g_seq ?_
  refine g_region ?_
  refine l_of (s_val (v := .int .i64 1) (wt0 rfl) rfl rfl (x_assign rfl rfl) ?_)
  refine g_nil ?_
  refine g_then ?_
  refine g_seq ?_
  refine g_seq ?_
  refine g_region ?_
  refine l_of (s_val (v := .int .i64 ((k : Int))) (wt0 rfl) rfl rfl (x_move rfl rfl) ?_)
  refine l_of (s_val (v := .int .i64 0) (wt0 rfl) rfl rfl (x_move rfl rfl) ?_)
  refine g_nil ?_
  refine g_then ?_
  refine g_block ?_
  refine g_loop (ι := Nat × Nat) (fun (i, x) => [(3, .int .i64 ((x : Int))), (4, .int .i64 ((k : Int))), (5, .int .i64 ((i : Int)))]) (fun (i, x) wx => (i ≤ k) ∧ (x = 2 ^ i) ∧ S wx [Old w no]) (fun (i, x) => k - i) (0, 1) ⟨rfl, rfl, rfl, trivial⟩ ⟨Nat.zero_le _, rfl, H0⟩ ?_
  rintro ⟨i, x⟩ wq1 ⟨hi, hx, H2⟩
  replace H2 : S wq1 [Old w no] := H2
  refine g_weak [(3, .int .i64 ((x : Int))), (4, .int .i64 ((k : Int))), (5, .int .i64 ((i : Int)))] ⟨rfl, rfl, rfl, trivial⟩ ?_
  have hx2 : x ≤ 2 ^ 60 := by rw [hx]; exact Nat.pow_le_pow_right (by omega) (by omega)
  have hx3 : x ≤ 1152921504606846976 := hx2
  refine g_seq ?_
  refine g_region ?_
  refine l_of (s_val (v := .bool (decide (((i : Int) : Int) < (k : Int)))) (wt0 rfl) rfl rfl (x_bin rfl rfl rfl b_lss) ?_)
  refine g_nil ?_
  refine g_then ?_
  refine g_seq ?_
  by_cases hb3 : ((i : Int) : Int) < (k : Int)
  · skip
    refine g_cond_t rfl (decide_eq_true hb3) ?_
    refine g_skip ?_
    refine g_then ?_
    refine g_seq ?_
    refine g_block ?_
    refine g_region ?_
    refine l_of (s_val (v := .int .i64 ((x : Int))) (wt0 rfl) rfl rfl (x_move rfl rfl) ?_)
    refine l_of (s_val (v := .int .i64 (((x * 2 : Nat) : Int))) (wt0 rfl) rfl rfl (x_bin rfl rfl rfl (b_mulN (a := x) (b := 2) (by omega))) ?_)
    refine l_of (s_val (v := .int .i64 (((x * 2 : Nat) : Int))) (wt0 rfl) rfl rfl (x_assign rfl rfl) ?_)
    refine g_nil ?_
    refine g_in ?_
    refine g_then ?_
    refine g_region ?_
    refine l_of (s_val (v := .int .i64 ((i : Int) + 1)) (wt0 rfl) rfl rfl (x_bin rfl rfl rfl (b_add (w64 (by omega)))) ?_)
    refine l_of (s_val (v := .int .i64 ((i : Int) + 1)) (wt0 rfl) rfl rfl (x_move rfl rfl) ?_)
    refine g_nil ?_
    refine g_then ?_
    refine g_round (i := (i, x)) (i + 1, x * 2) ?_ ?_ ?_
    · exact ⟨rfl, rfl, rfl, trivial⟩
    · exact ⟨by omega, (by rw [hx, Nat.pow_succ]), H2⟩
    · (try dsimp only); omega
  · skip
    refine g_cond_f rfl (decide_eq_false hb3) ?_
    refine g_exit ?_
    refine g_then_exit ?_
    refine g_then_exit ?_
    refine g_in_hit ?_
    refine g_then ?_
    refine g_seq ?_
    refine g_region ?_
    refine l_of (s_val (v := .int .i64 ((x : Int))) (wt0 rfl) rfl rfl (x_move rfl rfl) ?_)
    refine l_of (s_val (v := .int .i64 ((x : Int))) (wt0 rfl) rfl rfl (x_assign rfl rfl) ?_)
    refine g_nil ?_
    refine g_then ?_
    refine g_ret ?_
    refine fin_ret [.tmp 2] [.int .i64 ((x : Int))] rfl ⟨rfl, trivial⟩ ?_
    have hik : i = k := by omega
    subst hik
    exact ⟨by rw [hx]; rfl, H2.mask [true]⟩
theorem tall_next {n h : Nat} (hn : n ≤ 1099511627776) (hh : h ≤ tallN n) (h1 : 2 ^ h < n) : h + 1 ≤ tallN n := by
  obtain ⟨t1, t2, t3⟩ := tall_spec hn
  rcases Nat.lt_or_eq_of_le hh with h2 | h2
  · omega
  · rw [h2] at h1; omega
theorem tall_stop {n h : Nat} (hn : n ≤ 1099511627776) (hh : h ≤ tallN n) (h1 : n ≤ 2 ^ h) : h = tallN n := by
  obtain ⟨t1, t2, t3⟩ := tall_spec hn
  rcases Nat.lt_or_eq_of_le hh with h2 | h2
  · have := t2 h h2; omega
  · exact h2
set_option maxRecDepth 20000 in
set_option maxHeartbeats 4000000 in
theorem tall_r (n : Nat) (hn : n ≤ 1099511627776) (w : World) : Calls Tryz.prog 38 #[.int .i64 ((n : Int))] w fun e w' => e = .returned (.int .i64 ((tallN n : Nat) : Int)) ∧ S w' [Old w no] := by
  have H0 := S.old w
  refine enter 11 Tryz.func38 rfl rfl rfl ?_
  refine g_weak [(0, .int .i64 ((n : Int)))] ⟨rfl, trivial⟩ ?_
  refine g_seq ?_
  refine g_region ?_
  refine l_of (s_val (v := .int .i64 0) (wt0 rfl) rfl rfl (x_assign rfl rfl) ?_)
  refine g_nil ?_
  refine g_then ?_
  refine g_seq ?_
  refine g_region ?_
  refine l_of (s_val (v := .int .i64 0) (wt0 rfl) rfl rfl (x_assign rfl rfl) ?_)
  refine g_nil ?_
  refine g_then ?_
  refine g_seq ?_
  refine g_block ?_
  refine g_loop (ι := Nat) (fun h => [(0, .int .i64 ((n : Int))), (3, .int .i64 ((h : Int)))]) (fun h wx => (h ≤ tallN n) ∧ (∀ j, j < h → 2 ^ j < n) ∧ S wx [Old w no]) (fun h => tallN n - h) (0) ⟨rfl, rfl, trivial⟩ ⟨Nat.zero_le _, (fun j h => by omega), H0⟩ ?_
  rintro h wq1 ⟨hh, hlt, H2⟩
  replace H2 : S wq1 [Old w no] := H2
  refine g_weak [(0, .int .i64 ((n : Int))), (3, .int .i64 ((h : Int)))] ⟨rfl, rfl, trivial⟩ ?_
  obtain ⟨ht1, ht2, ht3⟩ := tall_spec hn
  refine g_seq ?_
  refine g_seq ?_
  refine g_region ?_
  refine l_of (s_val (v := .int .i64 ((h : Int))) (wt0 rfl) rfl rfl (x_move rfl rfl) ?_)
  refine l_of (s_call (wt0 rfl) (x_call' rfl rfl cl40) (two_r _ (by omega) _) ?_)
  rintro _ wq3 ⟨rfl, H4⟩
  replace H4 : S wq3 [Old w no] := H2.absorb (new := []) H4
  refine b_ret rfl rfl ?_
  refine l_of (s_val (v := .int .i64 ((n : Int))) (wt0 rfl) rfl rfl (x_move rfl rfl) ?_)
  refine l_of (s_val (v := .bool (decide ((((2 ^ h : Nat) : Int) : Int) < (n : Int)))) (wt0 rfl) rfl rfl (x_bin rfl rfl rfl b_lss) ?_)
  refine g_nil ?_
  refine g_then ?_
  by_cases hb5 : (((2 ^ h : Nat) : Int) : Int) < (n : Int)
  · skip
    refine g_cond_t rfl (decide_eq_true hb5) ?_
    refine g_skip ?_
    refine g_then ?_
    refine g_block ?_
    refine g_region ?_
    refine l_of (s_val (v := .int .i64 ((h : Int))) (wt0 rfl) rfl rfl (x_move rfl rfl) ?_)
    refine l_of (s_val (v := .int .i64 ((h : Int) + 1)) (wt0 rfl) rfl rfl (x_bin rfl rfl rfl (b_add (w64 (by omega)))) ?_)
    refine l_of (s_val (v := .int .i64 ((h : Int) + 1)) (wt0 rfl) rfl rfl (x_assign rfl rfl) ?_)
    refine g_nil ?_
    refine g_in ?_
    refine g_then ?_
    have htn := tall_next hn hh (by have := hb5; omega)
    refine g_round (i := (h)) (h + 1) ?_ ?_ ?_
    · exact ⟨rfl, rfl, trivial⟩
    · exact ⟨by omega, (fun j h => by rcases Nat.lt_succ_iff_lt_or_eq.1 h with h | rfl; exact hlt j h; have := hb5; omega), H4⟩
    · (try dsimp only); omega
  · skip
    refine g_cond_f rfl (decide_eq_false hb5) ?_
    refine g_exit ?_
    refine g_then_exit ?_
    refine g_then_exit ?_
    refine g_in_hit ?_
    refine g_then ?_
    refine g_seq ?_
    refine g_region ?_
    refine l_of (s_val (v := .int .i64 ((h : Int))) (wt0 rfl) rfl rfl (x_move rfl rfl) ?_)
    refine l_of (s_val (v := .int .i64 ((h : Int))) (wt0 rfl) rfl rfl (x_assign rfl rfl) ?_)
    refine g_nil ?_
    refine g_then ?_
    refine g_ret ?_
    refine fin_ret [.tmp 2] [.int .i64 ((h : Int))] rfl ⟨rfl, trivial⟩ ?_
    have hst := tall_stop hn hh (by have := hb5; omega)
    subst hst
    exact ⟨rfl, H4.mask [true]⟩
set_option maxRecDepth 20000 in
set_option maxHeartbeats 4000000 in
theorem count_r (n v : Nat) (h1 : 1 ≤ n) (hn : n ≤ 1099511627776) (hv : v ≤ 60) (w : World) : Calls Tryz.prog 25 #[.int .i64 ((n : Int)), .int .i64 ((v : Int))] w fun e w' => e = .returned (.int .i64 ((countN n v : Nat) : Int)) ∧ S w' [Old w no] := by
  have H0 := S.old w
  have h2 : 0 < 2 ^ v := Nat.two_pow_pos v
  have h3 : (n - 1) / 2 ^ v ≤ n - 1 := Nat.div_le_self _ _
  refine enter 11 Tryz.func25 rfl rfl rfl ?_
  refine g_weak [(0, .int .i64 ((n : Int))), (1, .int .i64 ((v : Int)))] ⟨rfl, rfl, trivial⟩ ?_
  refine g_seq ?_
  refine g_region ?_
  refine l_of (s_val (v := .int .i64 0) (wt0 rfl) rfl rfl (x_assign rfl rfl) ?_)
  refine g_nil ?_
  refine g_then ?_
  refine g_seq ?_
  refine g_region ?_
  refine l_of (s_val (v := .int .i64 ((n : Int))) (wt0 rfl) rfl rfl (x_move rfl rfl) ?_)
  refine l_of (s_val (v := .int .i64 (((n - 1 : Nat) : Int))) (wt0 rfl) rfl rfl (x_bin rfl rfl rfl (b_subN (a := n) (b := 1) (by omega))) ?_)
  refine l_of (s_val (v := .int .i64 ((v : Int))) (wt0 rfl) rfl rfl (x_move rfl rfl) ?_)
  refine l_of (s_call (wt0 rfl) (x_call' rfl rfl cl40) (two_r _ (by omega) _) ?_)
  rintro _ wq1 ⟨rfl, H2⟩
  replace H2 : S wq1 [Old w no] := H0.absorb (new := []) H2
  refine b_ret rfl rfl ?_
  refine l_of (s_val (v := .int .i64 ((((n - 1) / 2 ^ v : Nat) : Int))) (wt0 rfl) rfl rfl (x_bin rfl rfl rfl (b_quoN (a := n - 1) (b := 2 ^ v) (by omega))) ?_)
  refine l_of (s_val (v := .int .i64 (((countN n v : Nat) : Int))) (wt0 rfl) rfl rfl (x_bin rfl rfl rfl (b_addN (a := (n - 1) / 2 ^ v) (b := 1) (by omega))) ?_)
  refine l_of (s_val (v := .int .i64 (((countN n v : Nat) : Int))) (wt0 rfl) rfl rfl (x_assign rfl rfl) ?_)
  refine g_nil ?_
  refine g_then ?_
  refine g_ret ?_
  refine fin_ret [.tmp 4] [.int .i64 (((countN n v : Nat) : Int))] rfl ⟨rfl, trivial⟩ ?_
  exact ⟨rfl, H2.mask [true]⟩
set_option maxRecDepth 20000 in
set_option maxHeartbeats 4000000 in
theorem zeroAt_r (v : Nat) (hv : v ≤ 12) (w : World) : Calls Tryz.prog 39 #[.int .i64 ((v : Int))] w fun e w' => e = .returned (.tuple #[.string (zeroS v), .int .i64 0]) ∧ S w' [Old w no] := by
  have H0 := S.old w
  refine enter 21 Tryz.func39 rfl rfl rfl ?_
  refine g_weak [(0, .int .i64 ((v : Int)))] ⟨rfl, trivial⟩ ?_
  refine g_seq ?_
  refine g_region ?_
  refine l_of (s_val (v := .string (⟨#[]⟩)) (wt0 rfl) rfl rfl (x_assign rfl rfl) ?_)
  refine l_of (s_val (v := .int .i64 0) (wt0 rfl) rfl rfl (x_assign rfl rfl) ?_)
  refine g_nil ?_
  refine g_then ?_
  refine g_seq ?_
  refine g_seq ?_
  refine g_region ?_
  refine l_of (s_val (v := .int .i64 ((v : Int))) (wt0 rfl) rfl rfl (x_move rfl rfl) ?_)
  refine l_of (s_val (v := .bool (decide (((v : Int) : Int) < 0))) (wt0 rfl) rfl rfl (x_bin rfl rfl rfl b_lss) ?_)
  refine l_of (s_val (v := .bool (decide (((v : Int) : Int) < 0))) (wt0 rfl) rfl rfl (x_move rfl rfl) ?_)
  refine l_of (s_val (v := .int .i64 ((v : Int))) (wt1 rfl rfl rfl rfl (decide_eq_false (by omega))) rfl rfl (x_move rfl rfl) ?_)
  refine l_of (s_call (wt1 rfl rfl rfl rfl (decide_eq_false (by omega))) (x_call' rfl rfl cl38) (tall_r _ (by first | omega | decide) _) ?_)
  rintro _ wq1 ⟨rfl, H2⟩
  replace H2 : S wq1 [Old w no] := H0.absorb (new := []) H2
  refine b_ret rfl rfl ?_
  refine l_of (s_val (v := .bool (decide ((((tallN 4096 : Nat) : Int) : Int) < (v : Int)))) (wt1 rfl rfl rfl rfl (decide_eq_false (by omega))) rfl rfl (x_bin rfl rfl rfl b_gtr) ?_)
  refine l_of (s_val (v := .bool (decide ((((tallN 4096 : Nat) : Int) : Int) < (v : Int)))) (wt0 rfl) rfl rfl (x_pick_f rfl rfl (decide_eq_false (by omega)) rfl) ?_)
  refine g_nil ?_
  refine g_then ?_
  refine g_cond_f rfl (decide_eq_false (by have : tallN 4096 = 12 := (by decide); omega)) ?_
  refine g_skip ?_
  refine g_then ?_
  refine g_seq ?_
  refine g_region ?_
  refine l_of (s_call (wt0 rfl) (x_call' rfl rfl cl73) (zero_r _) ?_)
  rintro _ wq3 ⟨rfl, H4⟩
  replace H4 : S wq3 [Old w no] := H2.absorb (new := []) H4
  refine b_ret rfl rfl ?_
  refine l_of (s_val (v := .string zeroB) (wt0 rfl) rfl rfl (x_assign rfl rfl) ?_)
  refine g_nil ?_
  refine g_then ?_
  refine g_seq ?_
  refine g_seq ?_
  refine g_region ?_
  refine l_of (s_val (v := .int .i64 ((v : Int))) (wt0 rfl) rfl rfl (x_move rfl rfl) ?_)
  refine l_of (s_val (v := .int .i64 0) (wt0 rfl) rfl rfl (x_move rfl rfl) ?_)
  refine g_nil ?_
  refine g_then ?_
  refine g_block ?_
  refine g_loop (ι := Nat) (fun i => [(4, .string ((zeroS i))), (13, .int .i64 ((v : Int))), (14, .int .i64 ((i : Int)))]) (fun i wx => (i ≤ v) ∧ S wx [Old w no]) (fun i => v - i) (0) ⟨rfl, rfl, rfl, trivial⟩ ⟨Nat.zero_le _, H4⟩ ?_
  rintro i wq5 ⟨hi, H6⟩
  replace H6 : S wq5 [Old w no] := H6
  refine g_weak [(4, .string ((zeroS i))), (13, .int .i64 ((v : Int))), (14, .int .i64 ((i : Int)))] ⟨rfl, rfl, rfl, trivial⟩ ?_
  have hz := zeroS_size i
  refine g_seq ?_
  refine g_region ?_
  refine l_of (s_val (v := .bool (decide (((i : Int) : Int) < (v : Int)))) (wt0 rfl) rfl rfl (x_bin rfl rfl rfl b_lss) ?_)
  refine g_nil ?_
  refine g_then ?_
  refine g_seq ?_
  by_cases hb7 : ((i : Int) : Int) < (v : Int)
  · skip
    refine g_cond_t rfl (decide_eq_true hb7) ?_
    refine g_skip ?_
    refine g_then ?_
    refine g_seq ?_
    refine g_block ?_
    refine g_region ?_
    refine l_of (s_val (v := .string ((zeroS i))) (wt0 rfl) rfl rfl (x_move rfl rfl) ?_)
    refine l_of (s_val (v := .string ((zeroS i))) (wt0 rfl) rfl rfl (x_move rfl rfl) ?_)
    refine l_of (s_call (wt0 rfl) (x_call' rfl rfl cl74) (pair_r _ _ (by omega) _) ?_)
    rintro _ wq8 ⟨rfl, H9⟩
    replace H9 : S wq8 [Old w no] := H6.absorb (new := []) H9
    refine b_ret rfl rfl ?_
    refine l_of (s_val (v := .string ((pairS (zeroS i) (zeroS i)))) (wt0 rfl) rfl rfl (x_assign rfl rfl) ?_)
    refine g_nil ?_
    refine g_in ?_
    refine g_then ?_
    refine g_region ?_
    refine l_of (s_val (v := .int .i64 ((i : Int) + 1)) (wt0 rfl) rfl rfl (x_bin rfl rfl rfl (b_add (w64 (by omega)))) ?_)
    refine l_of (s_val (v := .int .i64 ((i : Int) + 1)) (wt0 rfl) rfl rfl (x_move rfl rfl) ?_)
    refine g_nil ?_
    refine g_then ?_
    refine g_round (i := (i)) (i + 1) ?_ ?_ ?_
    · exact ⟨rfl, rfl, rfl, trivial⟩
    · exact ⟨by omega, H9⟩
    · (try dsimp only); omega
  · skip
    refine g_cond_f rfl (decide_eq_false hb7) ?_
    refine g_exit ?_
    refine g_then_exit ?_
    refine g_then_exit ?_
    refine g_in_hit ?_
    refine g_then ?_
    refine g_seq ?_
    refine g_region ?_
    refine l_of (s_val (v := .string ((zeroS i))) (wt0 rfl) rfl rfl (x_move rfl rfl) ?_)
    refine l_of (s_val (v := .string ((zeroS i))) (wt0 rfl) rfl rfl (x_assign rfl rfl) ?_)
    refine l_of (s_val (v := .int .i64 0) (wt0 rfl) rfl rfl (x_assign rfl rfl) ?_)
    refine g_nil ?_
    refine g_then ?_
    refine g_ret ?_
    refine fin_ret [.tmp 2, .tmp 3] [.string ((zeroS i)), .int .i64 0] rfl ⟨rfl, rfl, trivial⟩ ?_
    have hiv : i = v := by omega
    exact ⟨by rw [hiv]; rfl, H6.mask [true]⟩
end Go.Proofs.YtlajgickimgigaaGreat
namespace Go.Proofs.YtlajgickimgigaaGreat
open Go.RowKit

theorem cl39 : callable Tryz.prog 39 = true := by kernel_rfl
theorem cl25 : callable Tryz.prog 25 = true := by kernel_rfl
theorem cl49 : callable Tryz.prog 49 = true := by kernel_rfl
theorem cl52 : callable Tryz.prog 52 = true := by kernel_rfl
theorem inf9 : infO Tryz.prog 9 = some (some (.string (⟨#[]⟩)), 1, 16) := by kernel_rfl
theorem ze9 : zeO Tryz.prog 9 = some (.string (⟨#[]⟩)) := by kernel_rfl
set_option maxRecDepth 20000 in
set_option maxHeartbeats 4000000 in
set_option maxRecDepth 20000 in
set_option maxHeartbeats 4000000 in
theorem up_r (l : List ByteArray) (p : Option Addr) (n c : Nat) (hn : n = l.length) (hsz : ∀ j, j < n → (l.getD j ⟨#[]⟩).size ≤ 65536) (hm : n ≤ 1099511627776) (w : World) (hr : Reads w p n c 1 (stV l)) : Calls Tryz.prog 52 #[.slice p n c] w fun e w' => ∃ p c, e = .returned (.slice p (n / 2) c) ∧ S w' ([Rw 9 1 p (n / 2) c (stV (upS l))] ++ [Old w no]) := by
  have H0 := S.old w
  refine enter 26 Tryz.func52 rfl rfl rfl ?_
  refine g_weak [(0, .slice p n c)] ⟨rfl, trivial⟩ ?_
  refine g_seq ?_
  refine g_region ?_
  refine l_of (s_val (v := .slice none 0 0) (wt0 rfl) rfl rfl (x_assign rfl rfl) ?_)
  refine g_nil ?_
  refine g_then ?_
  refine g_seq ?_
  refine g_region ?_
  have H1 : S w [Rw 9 1 none 0 0 (stV []), Old w no] := H0.nilRw 9 1
  refine l_of (s_val (v := .slice none 0 0) (wt0 rfl) rfl rfl (x_assign rfl rfl) ?_)
  refine g_nil ?_
  refine g_then ?_
  refine g_seq ?_
  refine g_seq ?_
  refine g_region ?_
  refine l_of (s_val (v := .int .i64 0) (wt0 rfl) rfl rfl (x_assign rfl rfl) ?_)
  refine g_nil ?_
  refine g_then ?_
  refine g_block ?_
  refine g_loop (ι := Nat × Option Addr × Nat) (fun (i, q, d) => [(0, .slice p n c), (3, .slice q i d), (4, .int .i64 (((2 * i : Nat) : Int)))]) (fun (i, q, d) wx => (2 * i ≤ n) ∧ S wx [Rw 9 1 q i d (stV (upTo l i)), Old w no]) (fun (i, q, d) => n - i) (0, none, 0) ⟨rfl, rfl, rfl, trivial⟩ ⟨by omega, (H1.takes [0, 1] (by decide))⟩ ?_
  rintro ⟨i, q, d⟩ wq2 ⟨hi, H3⟩
  replace H3 : S wq2 [Rw 9 1 q i d (stV (upTo l i)), Old w no] := H3
  refine g_weak [(0, .slice p n c), (3, .slice q i d), (4, .int .i64 (((2 * i : Nat) : Int)))] ⟨rfl, rfl, rfl, trivial⟩ ?_
  have hz1 : 2 * i + 1 < n → (l.getD (2 * i) ⟨#[]⟩).size ≤ 65536 ∧ (l.getD (2 * i + 1) ⟨#[]⟩).size ≤ 65536 := fun h => ⟨hsz _ (by omega), hsz _ (by omega)⟩
  refine g_seq ?_
  refine g_seq ?_
  refine g_region ?_
  refine l_of (s_val (v := .int .i64 (((2 * i : Nat) : Int))) (wt0 rfl) rfl rfl (x_move rfl rfl) ?_)
  refine l_of (s_val (v := .int .i64 (((2 * i + 1 : Nat) : Int))) (wt0 rfl) rfl rfl (x_bin rfl rfl rfl (b_addN (a := 2 * i) (b := 1) (by omega))) ?_)
  refine l_of (s_val (v := .slice p n c) (wt0 rfl) rfl rfl (x_move rfl rfl) ?_)
  refine l_of (s_val (v := .int .i64 ((n : Int))) (wt0 rfl) rfl rfl (x_lenl rfl rfl Tryz.underlying22) ?_)
  refine l_of (s_val (v := .bool (decide ((((2 * i + 1 : Nat) : Int) : Int) < (n : Int)))) (wt0 rfl) rfl rfl (x_bin rfl rfl rfl b_lss) ?_)
  refine g_nil ?_
  refine g_then ?_
  by_cases hb4 : (((2 * i + 1 : Nat) : Int) : Int) < (n : Int)
  · skip
    refine g_cond_t rfl (decide_eq_true hb4) ?_
    refine g_skip ?_
    refine g_then ?_
    refine g_seq ?_
    refine g_block ?_
    refine g_any [] (fun wx => S wx [Old w no]) [] (by kernel_rfl) H3 (fun wq5 H6 => ?_)
    refine a_take (v := .slice q i d) 0 rfl (wt0 rfl) rfl rfl rfl (by kernel_rfl) (by kernel_rfl) (by kernel_rfl) (by kernel_rfl) (H6.mask [false, true]) (fun wx H => x_move rfl rfl) ?_
    refine a_take (v := .slice p n c) 1 rfl (wt0 rfl) rfl rfl rfl (by kernel_rfl) (by kernel_rfl) (by kernel_rfl) (by kernel_rfl) (H6.mask [false, true]) (fun wx H => x_move rfl rfl) ?_
    refine a_take (v := .int .i64 (((2 * i : Nat) : Int))) 2 rfl (wt0 rfl) rfl rfl rfl (by kernel_rfl) (by kernel_rfl) (by kernel_rfl) (by kernel_rfl) (H6.mask [false, true]) (fun wx H => x_move rfl rfl) ?_
    refine a_take (v := .pointer ((p).map fun q => q.add ((2 * i) * 1))) 3 rfl (wt0 rfl) rfl rfl rfl (by kernel_rfl) (by kernel_rfl) (by kernel_rfl) (by kernel_rfl) (H6.mask [false, true]) (fun wx H => x_idxP (2 * i) ((hr.2.2 (by omega)).imp fun _ h => h.1) rfl rfl rfl Tryz.underlying22 sz9 (by omega)) ?_
    refine a_take (v := .string ((l.getD ((2 * i)) ⟨#[]⟩))) 4 rfl (wt0 rfl) rfl rfl rfl (by kernel_rfl) (by kernel_rfl) (by kernel_rfl) (by kernel_rfl) (H6.mask [false, true]) (fun wx H => x_loadR1 (2 * i) (H.oldReads (k := 0) rfl hr) (by omega) rfl rfl Tryz.underlying9 rfl (stV_at (by omega))) ?_
    refine a_take (v := .slice p n c) 5 rfl (wt0 rfl) rfl rfl rfl (by kernel_rfl) (by kernel_rfl) (by kernel_rfl) (by kernel_rfl) (H6.mask [false, true]) (fun wx H => x_move rfl rfl) ?_
    refine a_take (v := .int .i64 (((2 * i : Nat) : Int))) 6 rfl (wt0 rfl) rfl rfl rfl (by kernel_rfl) (by kernel_rfl) (by kernel_rfl) (by kernel_rfl) (H6.mask [false, true]) (fun wx H => x_move rfl rfl) ?_
    refine a_take (v := .int .i64 (((2 * i + 1 : Nat) : Int))) 7 rfl (wt0 rfl) rfl rfl rfl (by kernel_rfl) (by kernel_rfl) (by kernel_rfl) (by kernel_rfl) (H6.mask [false, true]) (fun wx H => x_bin rfl rfl rfl (b_addN (a := 2 * i) (b := 1) (by omega))) ?_
    refine a_take (v := .pointer ((p).map fun q => q.add ((2 * i + 1) * 1))) 8 rfl (wt0 rfl) rfl rfl rfl (by kernel_rfl) (by kernel_rfl) (by kernel_rfl) (by kernel_rfl) (H6.mask [false, true]) (fun wx H => x_idxP (2 * i + 1) ((hr.2.2 (by omega)).imp fun _ h => h.1) rfl rfl rfl Tryz.underlying22 sz9 (by omega)) ?_
    refine a_take (v := .string ((l.getD ((2 * i + 1)) ⟨#[]⟩))) 9 rfl (wt0 rfl) rfl rfl rfl (by kernel_rfl) (by kernel_rfl) (by kernel_rfl) (by kernel_rfl) (H6.mask [false, true]) (fun wx H => x_loadR1 (2 * i + 1) (H.oldReads (k := 0) rfl hr) (by omega) rfl rfl Tryz.underlying9 rfl (stV_at (by omega))) ?_
    refine a_one (i := 10) (by kernel_rfl) rfl ?_
    refine s_call (wt0 rfl) (x_call' rfl rfl cl74) (pair_r _ _ (by omega) _) ?_
    rintro _ wq7 ⟨rfl, H8⟩
    replace H8 : S wq7 [Rw 9 1 q i d (stV (upTo l i)), Old w no] := H6.absorb (new := []) H8
    refine b_ret rfl rfl ?_
    refine a_k (H8.mask [false, true]) ?_
    refine a_one (i := 11) (by kernel_rfl) rfl ?_
    refine s_buildSlice H8 (wt0 rfl) rfl rfl rfl (vs := [.string ((pairS (l.getD ((2 * i)) ⟨#[]⟩) (l.getD ((2 * i + 1)) ⟨#[]⟩)))]) rfl Tryz.underlying22 sz9 ze9 rfl rfl (cells := #[.string ((pairS (l.getD ((2 * i)) ⟨#[]⟩) (l.getD ((2 * i + 1)) ⟨#[]⟩)))]) (by kernel_rfl) ?_
    intro g9 wq10 H11
    refine a_k (H11.mask [false, false, true]) ?_
    refine a_one (i := 12) (by kernel_rfl) rfl ?_
    refine s_appendR (n := i) (m := 1) (sc := d) (xs := (stV (upTo l i))) (news := [.string ((pairS (l.getD ((2 * i)) ⟨#[]⟩) (l.getD ((2 * i + 1)) ⟨#[]⟩)))]) (p := q) (ad := ⟨g9, 0, none⟩) H11 1 (wt0 rfl) rfl rfl rfl rfl rfl rfl Tryz.underlying22 inf9 rfl (by decide) (by decide) rfl (by decide) (news_ob H11 (j0 := 0) rfl) rfl (by omega) ?_
    intro p12 c13 wq14 (H15 : S wq14 [Ob g9 (.cells #[.string ((pairS (l.getD ((2 * i)) ⟨#[]⟩) (l.getD ((2 * i + 1)) ⟨#[]⟩)))] 9 (0, 0)), Rw 9 1 p12 (i + 1) c13 ((stV (upTo l i)) ++ [.string ((pairS (l.getD ((2 * i)) ⟨#[]⟩) (l.getD ((2 * i + 1)) ⟨#[]⟩)))]), Old w no])
    refine a_k (H15.mask [false, false, true]) ?_
    refine a_take (v := .slice p12 (i + 1) c13) 13 rfl (wt0 rfl) rfl rfl rfl (by kernel_rfl) (by kernel_rfl) (by kernel_rfl) (by kernel_rfl) (H15.mask [false, false, true]) (fun wx H => x_assign rfl rfl) ?_
    refine a_done (by kernel_rfl) ?_
    refine g_in ?_
    refine g_then ?_
    refine g_weak [(0, .slice p n c), (3, .slice p12 (i + 1) c13), (4, .int .i64 (((2 * i : Nat) : Int)))] ⟨rfl, rfl, rfl, trivial⟩ ?_
    refine g_region ?_
    refine l_of (s_val (v := .int .i64 (((2 * i : Nat) : Int))) (wt0 rfl) rfl rfl (x_move rfl rfl) ?_)
    refine l_of (s_val (v := .int .i64 (((2 * (i + 1) : Nat) : Int))) (wt0 rfl) rfl rfl (x_bin rfl rfl rfl (b_addN (a := 2 * i) (b := 2) (by omega))) ?_)
    refine l_of (s_val (v := .int .i64 (((2 * (i + 1) : Nat) : Int))) (wt0 rfl) rfl rfl (x_assign rfl rfl) ?_)
    refine g_nil ?_
    refine g_then ?_
    refine g_round (i := (i, q, d)) (i + 1, p12, c13) ?_ ?_ ?_
    · exact ⟨rfl, rfl, rfl, trivial⟩
    · exact ⟨by omega, (by rw [upTo_next, stV_snoc]; exact (H15.takes [1, 2] (by decide)))⟩
    · (try dsimp only); omega
  · skip
    refine g_cond_f rfl (decide_eq_false hb4) ?_
    refine g_exit ?_
    refine g_then_exit ?_
    refine g_then_exit ?_
    refine g_in_hit ?_
    refine g_then ?_
    refine g_seq ?_
    refine g_region ?_
    refine l_of (s_val (v := .slice q i d) (wt0 rfl) rfl rfl (x_move rfl rfl) ?_)
    refine l_of (s_val (v := .slice q i d) (wt0 rfl) rfl rfl (x_assign rfl rfl) ?_)
    refine g_nil ?_
    refine g_then ?_
    refine g_ret ?_
    refine fin_ret [.tmp 2] [.slice q i d] rfl ⟨rfl, trivial⟩ ?_
    have hin : i = n / 2 := by omega
    subst hin
    exact ⟨_, _, rfl, by rw [← upTo_all, ← hn]; exact H3⟩
theorem tall_i (n : Int) (h : 0 ≤ n ∧ n ≤ 1099511627776) (w : World) : Calls Tryz.prog 38 #[.int .i64 n] w fun e w' => e = .returned (.int .i64 ((tallN n.toNat : Nat) : Int)) ∧ S w' [Old w no] := by
  have e : n = (n.toNat : Int) := by omega
  rw [e]; exact tall_r _ (by omega) _
theorem up_p (t : Nat) (l : List ByteArray) (h1 : (1 : Int) < ((2 ^ t : Nat) : Int)) (hl : l.length = 2 ^ t) (ht : t ≤ 40) (hd : digsB l = true) (p : Option Addr) (c : Nat) (w : World) (hr : Reads w p (2 ^ t) c 1 (stV l)) :
    Calls Tryz.prog 52 #[.slice p (2 ^ t) c] w fun e w' => ∃ p' c', e = .returned (.slice p' (2 ^ (t - 1)) c') ∧ S w' ([Rw 9 1 p' (2 ^ (t - 1)) c' (stV (upS l))] ++ [Old w no]) := by
  have ht1 : 1 ≤ t := by
    rcases Nat.eq_zero_or_pos t with h | h
    · subst h; exact absurd h1 (by decide)
    · exact h
  have e : 2 ^ t / 2 = 2 ^ (t - 1) := by
    conv => lhs; rw [show t = (t - 1) + 1 from by omega, Nat.pow_succ]
    omega
  have hp : 2 ^ t ≤ 2 ^ 40 := Nat.pow_le_pow_right (by omega) ht
  have := up_r l p (2 ^ t) c hl.symm (fun j hj => by rw [digs_get hd (by omega)]; omega) (by omega) w hr
  rw [e] at this
  exact this
theorem range_t {n level : Int} (h1 : 1 ≤ n) (h2 : n ≤ 4096) (h3 : 0 ≤ level) (h4 : level ≤ (tallN n.toNat : Int)) : rangeT n level = true := by
  unfold rangeT; rw [decide_eq_true h1, decide_eq_true h2, decide_eq_true h3, decide_eq_true h4]; rfl
theorem range_f {n level : Int} (h : n < 1 ∨ 4096 < n ∨ level < 0 ∨ (tallN n.toNat : Int) < level) : rangeT n level = false := by
  cases hr : rangeT n level with
  | false => rfl
  | true =>
    unfold rangeT at hr
    simp only [Bool.and_eq_true, decide_eq_true_eq] at hr
    omega
theorem range_spec {n level : Int} (h : rangeT n level = true) : 1 ≤ n ∧ n ≤ 4096 ∧ 0 ≤ level ∧ level ≤ (tallN n.toNat : Int) := by
  unfold rangeT at h
  simp only [Bool.and_eq_true, decide_eq_true_eq] at h
  omega
theorem count_le {n v : Nat} (h1 : 1 ≤ n) (hn : n ≤ 1099511627776) (hv : v ≤ tallN n) : countN n v ≤ 2 ^ (tallN n - v) := by
  obtain ⟨t1, t2, t3⟩ := tall_spec hn
  have e : 2 ^ tallN n = 2 ^ v * 2 ^ (tallN n - v) := by rw [← Nat.pow_add]; congr 1; omega
  have : (n - 1) / 2 ^ v < 2 ^ (tallN n - v) := Nat.div_lt_of_lt_mul (by omega)
  unfold countN; omega
theorem tall_le12 {n : Nat} (hn : n ≤ 4096) : tallN n ≤ 12 := by
  obtain ⟨t1, t2, t3⟩ := tall_spec (n := n) (by omega)
  rcases Nat.lt_or_ge 12 (tallN n) with h | h
  · have := t2 12 h; omega
  · exact h
theorem upN_snoc : ∀ (k : Nat) (l : List ByteArray), upN (k + 1) l = upS (upN k l)
  | 0, l => rfl
  | k + 1, l => upN_snoc k (upS l)
theorem two_gt {t : Nat} (h : ¬ (1 : Int) < ((2 ^ t : Nat) : Int)) : t = 0 := by
  rcases Nat.eq_zero_or_pos t with h1 | h1
  · exact h1
  · have : 2 ^ 1 ≤ 2 ^ t := Nat.pow_le_pow_right (by omega) h1
    omega
def padS (v : Nat) (l : List ByteArray) (k : Nat) : List ByteArray := l ++ List.replicate k (zeroS v)
theorem padS_next (v : Nat) (l : List ByteArray) (k : Nat) : padS v l (k + 1) = padS v l k ++ [zeroS v] := by
  unfold padS; rw [List.replicate_succ', List.append_assoc]
theorem padS_len (v : Nat) (l : List ByteArray) (k : Nat) : (padS v l k).length = l.length + k := by unfold padS; simp
theorem padS_digs {v : Nat} {l : List ByteArray} (k : Nat) (h : digsB l = true) : digsB (padS v l k) = true := by
  unfold digsB padS at *
  rw [List.all_append, h, Bool.true_and, List.all_eq_true]
  intro s hs
  rw [List.mem_replicate] at hs
  rw [hs.2, zeroS_size]; rfl
theorem getD_stV {l : List ByteArray} {j : Nat} (h : j < l.length) : (stV l)[j * 1]? = some (.string (l.getD j ⟨#[]⟩)) := stV_at h
theorem pow_pos1 {t : Nat} (h : (1 : Int) < ((2 ^ t : Nat) : Int)) : 1 ≤ t := by
  rcases Nat.eq_zero_or_pos t with h1 | h1
  · subst h1; exact absurd h (by decide)
  · exact h1
theorem pow_half {t : Nat} (h : (1 : Int) < ((2 ^ t : Nat) : Int)) : 2 ^ t / 2 = 2 ^ (t - 1) := by
  have := pow_pos1 h
  conv => lhs; rw [show t = (t - 1) + 1 from by omega, Nat.pow_succ]
  omega
end Go.Proofs.YtlajgickimgigaaGreat
