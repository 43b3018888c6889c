import Derived.Test.YthfglkkjkpdkpaaDoorHb
set_option linter.unusedSimpArgs false
set_option linter.unusedVariables false
namespace Go.Proofs.YthfglkkjkpdkpaaDoor
open Go.RowKit

theorem cl45 : callable Tryd.prog 45 = true := by kernel_rfl
theorem cl46 : callable Tryd.prog 46 = true := by kernel_rfl
theorem cl47 : callable Tryd.prog 47 = true := by kernel_rfl
theorem cl54 : callable Tryd.prog 54 = true := by kernel_rfl
theorem cl62 : callable Tryd.prog 62 = true := by kernel_rfl
theorem ze5 : zeO Tryd.prog 5 = some (.int .u8 0) := by kernel_rfl
theorem bytes_row {b : List Nat} (h : ∀ x ∈ b, x < 256) {w : World} {p : Option Addr} {n c : Nat} (hr : Reads w p n c 1 (nbL b)) : Reads w p n c 1 (bytesV (b.map UInt8.ofNat)) := by rw [← nbL_bytes h]; exact hr
set_option maxRecDepth 20000 in
set_option maxHeartbeats 4000000 in
theorem eight_h (h : Nat) (hh : h < 18446744073709551616) (w : World) : Calls Tryd.prog 62 #[.int .u64 ((h : Int))] w fun e w' => ∃ p c, e = .returned (.slice p 8 c) ∧ S w' ([Rw 5 1 p 8 c (nbL (eightT h))] ++ [Old w no]) := by
  have H0 := S.old w
  refine enter 17 Tryd.func62 rfl rfl rfl ?_
  refine g_weak [(0, .int .u64 ((h : Int)))] ⟨rfl, trivial⟩ ?_
  refine g_seq ?_
  refine g_region ?_
  refine l_of (s_val (v := .slice none 0 0) (wt0 rfl) rfl rfl (x_assign rfl rfl) ?_)
  refine g_nil ?_
  refine g_then ?_
  refine g_seq ?_
  refine g_region ?_
  have H1 : S w [Rw 5 1 none 0 0 [], Old w no] := H0.nilRw 5 1
  refine l_of (s_val (v := .slice none 0 0) (wt0 rfl) rfl rfl (x_assign rfl rfl) ?_)
  refine g_nil ?_
  refine g_then ?_
  refine g_seq ?_
  refine g_seq ?_
  refine g_region ?_
  refine l_of (s_val (v := .int .i64 56) (wt0 rfl) rfl rfl (x_assign rfl rfl) ?_)
  refine g_nil ?_
  refine g_then ?_
  refine g_block ?_
  refine g_loop (ι := Nat × Int × Option Addr × Nat) (fun (i, x, q, d) => [(0, .int .u64 ((h : Int))), (3, .slice q i d), (4, .int .i64 x)]) (fun (i, x, q, d) wx => (i ≤ 8) ∧ (x = 56 - 8 * (i : Int)) ∧ S wx [Rw 5 1 q i d (nbL (eightTo h i)), Old w no]) (fun (i, x, q, d) => 8 - i) (0, 56, none, 0) ⟨rfl, rfl, rfl, trivial⟩ ⟨Nat.zero_le _, rfl, (H1.takes [0, 1] (by decide))⟩ ?_
  rintro ⟨i, x, q, d⟩ wq2 ⟨hi, hx, H3⟩
  replace H3 : S wq2 [Rw 5 1 q i d (nbL (eightTo h i)), Old w no] := H3
  refine g_weak [(0, .int .u64 ((h : Int))), (3, .slice q i d), (4, .int .i64 x)] ⟨rfl, rfl, rfl, trivial⟩ ?_
  refine g_seq ?_
  refine g_seq ?_
  refine g_region ?_
  refine l_of (s_val (v := .int .i64 x) (wt0 rfl) rfl rfl (x_move rfl rfl) ?_)
  refine l_of (s_val (v := .bool (decide ((0 : Int) ≤ x))) (wt0 rfl) rfl rfl (x_bin rfl rfl rfl b_geq) ?_)
  refine g_nil ?_
  refine g_then ?_
  by_cases hb4 : (0 : Int) ≤ x
  · skip
    refine g_cond_t rfl (decide_eq_true hb4) ?_
    refine g_skip ?_
    refine g_then ?_
    refine g_seq ?_
    refine g_block ?_
    refine g_region ?_
    refine l_of (s_val (v := .slice q i d) (wt0 rfl) rfl rfl (x_move rfl rfl) ?_)
    refine l_of (s_val (v := .int .u64 ((h : Int))) (wt0 rfl) rfl rfl (x_move rfl rfl) ?_)
    refine l_of (s_val (v := .int .i64 x) (wt0 rfl) rfl rfl (x_move rfl rfl) ?_)
    refine l_of (s_val (v := .int .u64 (((h / 2 ^ (56 - 8 * i) : Nat) : Int))) (wt0 rfl) rfl rfl (x_bin rfl rfl rfl (b_shrI (a := h) (n := 56 - 8 * i) (by omega) (by show 56 - 8 * i ≤ 64; omega))) ?_)
    refine l_of (s_val (v := .int .u8 (((h / 2 ^ (56 - 8 * i) % 256 : Nat) : Int))) (wt0 rfl) rfl rfl (x_conv rfl rfl Tryd.underlying78 Tryd.underlying5 (wrapB _)) ?_)
    refine l_of (s_buildSlice H3 (wt0 rfl) rfl rfl rfl (vs := [.int .u8 (((h / 2 ^ (56 - 8 * i) % 256 : Nat) : Int))]) rfl Tryd.underlying90 sz5 ze5 rfl rfl (cells := #[.int .u8 (((h / 2 ^ (56 - 8 * i) % 256 : Nat) : Int))]) (by kernel_rfl) ?_)
    intro g5 wq6 H7
    refine l_of (s_appendR (n := i) (m := 1) (sc := d) (xs := (nbL (eightTo h i))) (news := [.int .u8 (((h / 2 ^ (56 - 8 * i) % 256 : Nat) : Int))]) (p := q) (ad := ⟨g5, 0, none⟩) H7 1 (wt0 rfl) rfl rfl rfl rfl rfl rfl Tryd.underlying90 inf5 rfl (by decide) (by decide) rfl (by decide) (news_ob H7 (j0 := 0) rfl) rfl (by omega) ?_)
    intro p8 c9 wq10 (H11 : S wq10 [Ob g5 (.cells #[.int .u8 (((h / 2 ^ (56 - 8 * i) % 256 : Nat) : Int))] 5 (0, 0)), Rw 5 1 p8 (i + 1) c9 ((nbL (eightTo h i)) ++ [.int .u8 (((h / 2 ^ (56 - 8 * i) % 256 : Nat) : Int))]), Old w no])
    refine l_of (s_val (v := .slice p8 (i + 1) c9) (wt0 rfl) rfl rfl (x_assign rfl rfl) ?_)
    refine g_nil ?_
    refine g_in ?_
    refine g_then ?_
    refine g_region ?_
    refine l_of (s_val (v := .int .i64 x) (wt0 rfl) rfl rfl (x_move rfl rfl) ?_)
    refine l_of (s_val (v := .int .i64 (x - 8)) (wt0 rfl) rfl rfl (x_bin rfl rfl rfl (b_sub (w64 (by omega)))) ?_)
    refine l_of (s_val (v := .int .i64 (x - 8)) (wt0 rfl) rfl rfl (x_assign rfl rfl) ?_)
    refine g_nil ?_
    refine g_then ?_
    refine g_round (i := (i, x, q, d)) (i + 1, x - 8, p8, c9) ?_ ?_ ?_
    · exact ⟨rfl, rfl, rfl, trivial⟩
    · exact ⟨by omega, by omega, (by rw [eightTo_next, nbL_app]; exact (H11.takes [1, 2] (by decide)))⟩
    · (try dsimp only); omega
  · skip
    refine g_cond_f rfl (decide_eq_false hb4) ?_
    refine g_exit ?_
    refine g_then_exit ?_
    refine g_then_exit ?_
    refine g_in_hit ?_
    refine g_then ?_
    refine g_seq ?_
    refine g_region ?_
    refine l_of (s_val (v := .slice q i d) (wt0 rfl) rfl rfl (x_move rfl rfl) ?_)
    refine l_of (s_val (v := .slice q i d) (wt0 rfl) rfl rfl (x_assign rfl rfl) ?_)
    refine g_nil ?_
    refine g_then ?_
    refine g_ret ?_
    refine fin_ret [.tmp 2] [.slice q i d] rfl ⟨rfl, trivial⟩ ?_
    have hi8 : i = 8 := by omega
    subst hi8
    exact ⟨_, _, rfl, H3⟩
set_option maxRecDepth 20000 in
set_option maxHeartbeats 4000000 in
theorem ended_h (n : Nat) (l : List Nat) (hl : l.length = 4) (hlt : ∀ x ∈ l, x < 18446744073709551616) (hn : n ≤ 1099511627776) (w : World) : Calls Tryd.prog 54 #[.agg (lanV l), .int .i64 ((n : Int))] w fun e w' => e = .returned (.string (nbS (sumTo l n 4))) ∧ S w' [Old w no] := by
  have H0 := S.old w
  refine enter 30 Tryd.func54 rfl rfl rfl ?_
  refine g_weak [(0, .agg (lanV l)), (1, .int .i64 ((n : Int)))] ⟨rfl, rfl, trivial⟩ ?_
  refine g_seq ?_
  refine g_region ?_
  refine l_of (s_box H0 (wt0 rfl) rfl rfl rfl rfl ?_)
  intro g1 wq2 H3
  replace H3 : S wq2 [Ob g1 (.cells (lanV l) 81 (0, 0)), Old w no] := H3
  refine l_of (s_val (v := .string (⟨#[]⟩)) (wt0 rfl) rfl rfl (x_assign rfl rfl) ?_)
  refine g_nil ?_
  refine g_then ?_
  refine g_seq ?_
  refine g_region ?_
  have H4 : S wq2 [Rw 5 1 none 0 0 [], Ob g1 (.cells (lanV l) 81 (0, 0)), Old w no] := H3.nilRw 5 1
  refine l_of (s_val (v := .slice none 0 0) (wt0 rfl) rfl rfl (x_assign rfl rfl) ?_)
  refine g_nil ?_
  refine g_then ?_
  refine g_seq ?_
  refine g_seq ?_
  refine g_region ?_
  refine l_of (s_val (v := .pointer (some ⟨g1, 0, none⟩)) (wt0 rfl) rfl rfl (x_fieldAddr rfl rfl fo81_0 rfl) ?_)
  refine l_of (s_val (v := .agg (lanV l)) (wt0 rfl) rfl rfl (x_loadA H4 1 rfl rfl Tryd.underlying79 rfl sz79 rfl (Nat.ble_eq_true_of_le (by rw [lanV_size]; omega)) (lanV_ext hl)) ?_)
  refine l_of (s_val (v := .int .i64 0) (wt0 rfl) rfl rfl (x_move rfl rfl) ?_)
  refine g_nil ?_
  refine g_then ?_
  refine g_block ?_
  refine g_loop (ι := Nat × Option Addr × Nat) (fun (k, q, d) => [(1, .int .i64 ((n : Int))), (5, .slice q ((8 * k) : Nat) d), (9, .agg (lanV l)), (10, .int .i64 ((k : Int)))]) (fun (k, q, d) wx => (k ≤ 4) ∧ S wx [Rw 5 1 q (8 * k) d (nbL (sumTo l n k)), Old w no]) (fun (k, q, d) => 4 - k) (0, none, 0) ⟨rfl, rfl, rfl, rfl, trivial⟩ ⟨Nat.zero_le _, (H4.takes [0, 2] (by decide))⟩ ?_
  rintro ⟨k, q, d⟩ wq5 ⟨hk, H6⟩
  replace H6 : S wq5 [Rw 5 1 q (8 * k) d (nbL (sumTo l n k)), Old w no] := H6
  refine g_weak [(1, .int .i64 ((n : Int))), (5, .slice q ((8 * k) : Nat) d), (9, .agg (lanV l)), (10, .int .i64 ((k : Int)))] ⟨rfl, rfl, rfl, rfl, trivial⟩ ?_
  have hgl : (l.getD k 0) < 18446744073709551616 := getD_u hlt k
  have hx := u64_xor hgl (show n < 18446744073709551616 by omega)
  have hX : (((l.getD k 0) ^^^ n) * 1099511628211 % 18446744073709551616) < 18446744073709551616 := Nat.mod_lt _ (by omega)
  have hX2 : (((l.getD k 0) ^^^ n) * 1099511628211 % 18446744073709551616) / 4294967296 ≤ (((l.getD k 0) ^^^ n) * 1099511628211 % 18446744073709551616) := Nat.div_le_self _ _
  refine g_seq ?_
  refine g_region ?_
  refine l_of (s_val (v := .bool (decide (((k : Int) : Int) < 4))) (wt0 rfl) rfl rfl (x_bin rfl rfl rfl b_lss) ?_)
  refine g_nil ?_
  refine g_then ?_
  refine g_seq ?_
  by_cases hb7 : ((k : Int) : Int) < 4
  · skip
    refine g_cond_t rfl (decide_eq_true hb7) ?_
    refine g_skip ?_
    refine g_then ?_
    refine g_seq ?_
    refine g_block ?_
    refine g_seq ?_
    refine g_region ?_
    refine l_of (s_val (v := .int .u64 ((((l.getD k 0) : Nat) : Int))) (wt0 rfl) rfl rfl (x_indexW k rfl rfl rfl Tryd.underlying79 sz78 Tryd.underlying78 rfl (by omega) (lanV_at (by omega))) ?_)
    refine l_of (s_val (v := .int .u64 ((((l.getD k 0) : Nat) : Int))) (wt0 rfl) rfl rfl (x_assign rfl rfl) ?_)
    refine g_nil ?_
    refine g_then ?_
    refine g_seq ?_
    refine g_region ?_
    refine l_of (s_val (v := .int .u64 ((((l.getD k 0) : Nat) : Int))) (wt0 rfl) rfl rfl (x_move rfl rfl) ?_)
    refine l_of (s_val (v := .int .i64 ((n : Int))) (wt0 rfl) rfl rfl (x_move rfl rfl) ?_)
    refine l_of (s_val (v := .int .u64 ((n : Int))) (wt0 rfl) rfl rfl (x_conv rfl rfl Tryd.underlying3 Tryd.underlying78 (wrapU (by omega))) ?_)
    refine l_of (s_val (v := .int .u64 ((((l.getD k 0) ^^^ n : Nat) : Int))) (wt0 rfl) rfl rfl (x_bin rfl rfl rfl (b_xorU (a := (l.getD k 0)) (b := n) (by omega))) ?_)
    refine l_of (s_val (v := .int .u64 ((((((l.getD k 0) ^^^ n) * 1099511628211 % 18446744073709551616) : Nat) : Int))) (wt0 rfl) rfl rfl (x_bin rfl rfl rfl (b_mulU ((l.getD k 0) ^^^ n) 1099511628211)) ?_)
    refine l_of (s_val (v := .int .u64 ((((((l.getD k 0) ^^^ n) * 1099511628211 % 18446744073709551616) : Nat) : Int))) (wt0 rfl) rfl rfl (x_assign rfl rfl) ?_)
    refine g_nil ?_
    refine g_then ?_
    refine g_seq ?_
    refine g_region ?_
    refine l_of (s_val (v := .int .u64 ((((((l.getD k 0) ^^^ n) * 1099511628211 % 18446744073709551616) : Nat) : Int))) (wt0 rfl) rfl rfl (x_move rfl rfl) ?_)
    refine l_of (s_val (v := .int .u64 ((((((l.getD k 0) ^^^ n) * 1099511628211 % 18446744073709551616) : Nat) : Int))) (wt0 rfl) rfl rfl (x_move rfl rfl) ?_)
    refine l_of (s_val (v := .int .u64 ((((((l.getD k 0) ^^^ n) * 1099511628211 % 18446744073709551616) / 4294967296 : Nat) : Int))) (wt0 rfl) rfl rfl (x_bin rfl rfl rfl (b_shrN (a := (((l.getD k 0) ^^^ n) * 1099511628211 % 18446744073709551616)) (n := 32) (by decide))) ?_)
    refine l_of (s_val (v := .int .u64 ((((((l.getD k 0) ^^^ n) * 1099511628211 % 18446744073709551616) ^^^ (((l.getD k 0) ^^^ n) * 1099511628211 % 18446744073709551616) / 4294967296 : Nat) : Int))) (wt0 rfl) rfl rfl (x_bin rfl rfl rfl (b_xorU (a := (((l.getD k 0) ^^^ n) * 1099511628211 % 18446744073709551616)) (b := (((l.getD k 0) ^^^ n) * 1099511628211 % 18446744073709551616) / 4294967296) (by omega))) ?_)
    refine l_of (s_val (v := .int .u64 ((((((l.getD k 0) ^^^ n) * 1099511628211 % 18446744073709551616) ^^^ (((l.getD k 0) ^^^ n) * 1099511628211 % 18446744073709551616) / 4294967296 : Nat) : Int))) (wt0 rfl) rfl rfl (x_assign rfl rfl) ?_)
    refine g_nil ?_
    refine g_then ?_
    refine g_region ?_
    refine l_of (s_val (v := .slice q ((8 * k) : Nat) d) (wt0 rfl) rfl rfl (x_move rfl rfl) ?_)
    refine l_of (s_val (v := .int .u64 ((((((l.getD k 0) ^^^ n) * 1099511628211 % 18446744073709551616) ^^^ (((l.getD k 0) ^^^ n) * 1099511628211 % 18446744073709551616) / 4294967296 : Nat) : Int))) (wt0 rfl) rfl rfl (x_move rfl rfl) ?_)
    refine l_of (s_val (v := .int .u64 (((endT (l.getD k 0) n : Nat) : Int))) (wt0 rfl) rfl rfl (x_bin rfl rfl rfl (b_mulU ((((l.getD k 0) ^^^ n) * 1099511628211 % 18446744073709551616) ^^^ (((l.getD k 0) ^^^ n) * 1099511628211 % 18446744073709551616) / 4294967296) 1099511628211)) ?_)
    refine l_of (s_call (wt0 rfl) (x_call' rfl rfl cl62) (eight_h _ (endT_lt _ _) _) ?_)
    rintro _ wq10 ⟨p8, c9, rfl, H11⟩
    replace H11 : S wq10 [Rw 5 1 p8 8 c9 (nbL (eightT (endT (l.getD k 0) n))), Rw 5 1 q (8 * k) d (nbL (sumTo l n k)), Old w no] := H6.absorb (new := [Rw 5 1 p8 8 c9 (nbL (eightT (endT (l.getD k 0) n)))]) H11
    refine b_ret rfl rfl ?_
    refine l_of (s_appendW (n := 8 * k) (m := 8) (sc := d) (xs := nbL (sumTo l n k)) (news := nbL (eightT (endT (l.getD k 0) n))) (p := q) (q := p8) H11 1 (wt0 rfl) rfl rfl rfl rfl rfl rfl Tryd.underlying90 inf5 rfl (by decide) (by decide) (H11.rwReads (k := 0) rfl) (nbL_one _) (by omega) ?_)
    intro p12 c13 wq14 H15
    replace H15 : S wq14 [Rw 5 1 p8 8 c9 (nbL (eightT (endT (l.getD k 0) n))), Rw 5 1 p12 (8 * k + 8) c13 (nbL (sumTo l n k) ++ nbL (eightT (endT (l.getD k 0) n))), Old w no] := H15
    refine l_of (s_val (v := .slice p12 ((8 * k + 8) : Nat) c13) (wt0 rfl) rfl rfl (x_assign rfl rfl) ?_)
    refine g_nil ?_
    refine g_in ?_
    refine g_then ?_
    refine g_weak [(1, .int .i64 ((n : Int))), (5, .slice p12 ((8 * k + 8) : Nat) c13), (9, .agg (lanV l)), (10, .int .i64 ((k : Int)))] ⟨rfl, rfl, rfl, rfl, trivial⟩ ?_
    refine g_region ?_
    refine l_of (s_val (v := .int .i64 ((k : Int) + 1)) (wt0 rfl) rfl rfl (x_bin rfl rfl rfl (b_add (w64 (by omega)))) ?_)
    refine l_of (s_val (v := .int .i64 ((k : Int) + 1)) (wt0 rfl) rfl rfl (x_move rfl rfl) ?_)
    refine g_nil ?_
    refine g_then ?_
    refine g_round (i := (k, q, d)) (k + 1, p12, c13) ?_ ?_ ?_
    · exact ⟨rfl, rfl, rfl, rfl, trivial⟩
    · exact ⟨by omega, (by rw [show 8 * (k + 1) = 8 * k + 8 from by omega, sumTo_next (by omega), nbL_app]; exact (H15.takes [1, 2] (by decide)))⟩
    · (try dsimp only); omega
  · skip
    refine g_cond_f rfl (decide_eq_false hb7) ?_
    refine g_exit ?_
    refine g_then_exit ?_
    refine g_then_exit ?_
    refine g_in_hit ?_
    refine g_then ?_
    refine g_seq ?_
    refine g_region ?_
    refine l_of (s_val (v := .slice q ((8 * k) : Nat) d) (wt0 rfl) rfl rfl (x_move rfl rfl) ?_)
    refine l_of (s_val (v := .string ((nbS (sumTo l n k)))) (wt0 rfl) rfl rfl (x_bytesR (l := (sumTo l n k).map UInt8.ofNat) rfl rfl Tryd.underlying90 Tryd.underlying9 Tryd.underlying5 (bytes_row (sumTo_lt l n k) (H6.rwReads (k := 0) rfl)) (by rw [List.length_map, sumTo_len l n k (by omega)])) ?_)
    refine l_of (s_val (v := .string ((nbS (sumTo l n k)))) (wt0 rfl) rfl rfl (x_assign rfl rfl) ?_)
    refine g_nil ?_
    refine g_then ?_
    refine g_ret ?_
    refine fin_ret [.tmp 4] [.string ((nbS (sumTo l n k)))] rfl ⟨rfl, trivial⟩ ?_
    have hk4 : k = 4 := by omega
    subst hk4
    exact ⟨rfl, H6.mask [false, true]⟩
set_option maxRecDepth 20000 in
set_option maxHeartbeats 4000000 in
set_option maxRecDepth 20000 in
set_option maxHeartbeats 4000000 in
theorem sumh_h (gh n : Nat) (l : List Nat) (hl : l.length = 4) (hlt : ∀ x ∈ l, x < 18446744073709551616) (hn : n ≤ 1099511627776) (w : World) (HB : S w [Ob gh (.cells (hashV l n) 84 (0, 0))]) : Calls Tryd.prog 47 #[.pointer (some ⟨gh, 0, none⟩)] w fun e w' => e = .returned (.string (nbS (sumTo l n 4))) ∧ S w' ([Ob gh (.cells (hashV l n) 84 (0, 0))] ++ [Old w (fps [Ob gh (.cells (hashV l n) 84 (0, 0))])]) := by
  have H0 : S w [Ob gh (.cells (hashV l n) 84 (0, 0)), Old w (fps [Ob gh (.cells (hashV l n) 84 (0, 0))])] := HB.beginI
  refine enter 14 Tryd.func47 rfl rfl rfl ?_
  refine g_weak [(0, .pointer (some ⟨gh, 0, none⟩))] ⟨rfl, trivial⟩ ?_
  refine g_seq ?_
  refine g_region ?_
  refine l_of (s_val (v := .string (⟨#[]⟩)) (wt0 rfl) rfl rfl (x_assign rfl rfl) ?_)
  refine g_nil ?_
  refine g_then ?_
  refine g_seq ?_
  refine g_seq ?_
  refine g_region ?_
  refine l_of (s_val (v := .pointer (some ⟨gh, 0, none⟩)) (wt0 rfl) rfl rfl (x_move rfl rfl) ?_)
  refine l_of (s_val (v := .bool false) (wt0 rfl) rfl rfl (x_bin rfl rfl rfl (b_eqN (r := false) Tryd.underlying73 rfl)) ?_)
  refine g_nil ?_
  refine g_then ?_
  refine g_cond_f rfl rfl ?_
  refine g_skip ?_
  refine g_then ?_
  refine g_seq ?_
  refine g_quiet (by kernel_rfl) (by kernel_rfl) H0 ?_
  refine q_val (v := .pointer (some ⟨gh, 0, none⟩)) (wt0 rfl) rfl rfl (fun wx H => x_move rfl rfl) ?_
  refine q_val (v := .pointer (some ⟨gh, 0, none⟩)) (wt0 rfl) rfl rfl (fun wx H => x_nilCheck rfl rfl) ?_
  refine q_val (v := .pointer (some ⟨gh, 0, none⟩)) (wt0 rfl) rfl rfl (fun wx H => x_fieldAddr rfl rfl fo84_0 rfl) ?_
  refine q_val (v := .agg (lanV l)) (wt0 rfl) rfl rfl (fun wx H => x_loadA H 0 rfl rfl Tryd.underlying81 rfl sz81 rfl (Nat.ble_eq_true_of_le (by rw [hashV_size]; omega)) (hashV_ext hl)) ?_
  refine q_val (v := .pointer (some ⟨gh, 0, none⟩)) (wt0 rfl) rfl rfl (fun wx H => x_move rfl rfl) ?_
  refine q_val (v := .pointer (some ⟨gh, 0, none⟩)) (wt0 rfl) rfl rfl (fun wx H => x_nilCheck rfl rfl) ?_
  refine q_val (v := .pointer (some ⟨gh, 4, none⟩)) (wt0 rfl) rfl rfl (fun wx H => x_fieldAddr rfl rfl fo84_1 rfl) ?_
  refine q_val (v := .int .i64 ((n : Int))) (wt0 rfl) rfl rfl (fun wx H => x_load1 H 0 rfl rfl Tryd.underlying3 rfl rfl (hashV_at (by first | omega | (simp only [List.length_map, takeTo_len]; omega)))) ?_
  refine q_call (wt0 rfl) rfl rfl (fun wx H => x_call' rfl rfl cl54) (fun wx H => (ended_h n l hl hlt hn _).mono (by rintro _ _ ⟨rfl, h⟩; exact ⟨rfl, H.absorb (new := []) h⟩)) ?_
  refine q_val (v := .string ((nbS (sumTo l n 4)))) (wt0 rfl) rfl rfl (fun wx H => x_assign rfl rfl) ?_
  refine q_nil (fun wq1 H2 => ?_)
  refine g_then ?_
  refine g_weak [(2, .string ((nbS (sumTo l n 4))))] ⟨rfl, trivial⟩ ?_
  refine g_ret ?_
  refine fin_ret [.tmp 2] [.string ((nbS (sumTo l n 4)))] rfl ⟨rfl, trivial⟩ ?_
  exact ⟨rfl, H2.mask [true, true]⟩
set_option maxRecDepth 20000 in
set_option maxHeartbeats 4000000 in
theorem sum_h (s : ByteArray) (hs : s.size ≤ 1099511627776) (w : World) : Calls Tryd.prog 40 #[.string s] w fun e w' => e = .returned (.string (sumS s)) ∧ S w' [Old w no] := by
  have H0 := S.old w
  refine enter 10 Tryd.func40 rfl rfl rfl ?_
  refine g_weak [(0, .string s)] ⟨rfl, trivial⟩ ?_
  refine g_seq ?_
  refine g_region ?_
  refine l_of (s_val (v := .string (⟨#[]⟩)) (wt0 rfl) rfl rfl (x_assign rfl rfl) ?_)
  refine g_nil ?_
  refine g_then ?_
  refine g_seq ?_
  refine g_region ?_
  refine l_of (s_call (wt0 rfl) (x_call' rfl rfl cl45) (newh_h _) ?_)
  rintro _ wq1 ⟨gh, rfl, H2⟩
  replace H2 : S wq1 [Ob gh (.cells (hashV begL 0) 84 (0, 0)), Old w no] := H0.absorb (new := [Ob gh (.cells (hashV begL 0) 84 (0, 0))]) H2
  refine b_ret rfl rfl ?_
  refine l_of (s_val (v := .pointer (some ⟨gh, 0, none⟩)) (wt0 rfl) rfl rfl (x_assign rfl rfl) ?_)
  refine g_nil ?_
  refine g_then ?_
  refine g_seq ?_
  refine g_region ?_
  refine l_of (s_val (v := .pointer (some ⟨gh, 0, none⟩)) (wt0 rfl) rfl rfl (x_move rfl rfl) ?_)
  refine l_of (s_val (v := .string s) (wt0 rfl) rfl rfl (x_move rfl rfl) ?_)
  refine l_of (s_call (wt0 rfl) (x_call' rfl rfl cl46) (addh_h gh 0 begL begL_len begL_lt s hs (by omega) _ (H2.takes [0] (by decide))) ?_)
  rintro _ wq3 ⟨rfl, H4⟩
  replace H4 : S wq3 [Ob gh (.cells (hashV (begL.map (laneP s · s.size)) (0 + s.size)) 84 (0, 0)), Old w no] := H2.absorbI (new := [Ob gh (.cells (hashV (begL.map (laneP s · s.size)) (0 + s.size)) 84 (0, 0))]) [0] H4
  refine b_ret rfl rfl ?_
  refine g_nil ?_
  refine g_then ?_
  refine g_seq ?_
  refine g_region ?_
  refine l_of (s_val (v := .pointer (some ⟨gh, 0, none⟩)) (wt0 rfl) rfl rfl (x_move rfl rfl) ?_)
  refine l_of (s_call (wt0 rfl) (x_call' rfl rfl cl47) (sumh_h gh (0 + s.size) (begL.map (laneP s · s.size)) (by rw [List.length_map, begL_len]) (lanes_lt begL_lt s.size) (by omega) _ (H4.takes [0] (by decide))) ?_)
  rintro _ wq5 ⟨rfl, H6⟩
  replace H6 : S wq5 [Ob gh (.cells (hashV (begL.map (laneP s · s.size)) (0 + s.size)) 84 (0, 0)), Old w no] := H4.absorbI (new := [Ob gh (.cells (hashV (begL.map (laneP s · s.size)) (0 + s.size)) 84 (0, 0))]) [0] H6
  refine b_ret rfl rfl ?_
  refine l_of (s_val (v := .string ((nbS (sumTo (begL.map (laneP s · s.size)) (0 + s.size) 4)))) (wt0 rfl) rfl rfl (x_assign rfl rfl) ?_)
  refine g_nil ?_
  refine g_then ?_
  refine g_ret ?_
  refine fin_ret [.tmp 2] [.string ((nbS (sumTo (begL.map (laneP s · s.size)) (0 + s.size) 4)))] rfl ⟨rfl, trivial⟩ ?_
  exact ⟨by rw [Nat.zero_add]; rfl, H6.mask [false, true]⟩
end Go.Proofs.YthfglkkjkpdkpaaDoor
