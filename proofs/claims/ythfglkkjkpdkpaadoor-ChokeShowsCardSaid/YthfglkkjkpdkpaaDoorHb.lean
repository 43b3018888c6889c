import Derived.Test.YthfglkkjkpdkpaaDoorHa
set_option linter.unusedSimpArgs false
set_option linter.unusedVariables false
namespace Go.Proofs.YthfglkkjkpdkpaaDoor
open Go.RowKit

theorem cl51 : callable Tryd.prog 51 = true := by kernel_rfl
theorem cl52 : callable Tryd.prog 52 = true := by kernel_rfl
theorem cl53 : callable Tryd.prog 53 = true := by kernel_rfl
theorem fo81_0 : foO Tryd.prog 81 0 = some 0 := by kernel_rfl
theorem fo84_0 : foO Tryd.prog 84 0 = some 0 := by kernel_rfl
theorem fo84_1 : foO Tryd.prog 84 1 = some 4 := by kernel_rfl
theorem sz3 : szO Tryd.prog 3 = some 1 := by kernel_rfl
theorem sz78 : szO Tryd.prog 78 = some 1 := by kernel_rfl
theorem sz79 : szO Tryd.prog 79 = some 4 := by kernel_rfl
theorem sz81 : szO Tryd.prog 81 = some 4 := by kernel_rfl
theorem ze81 : zeO Tryd.prog 81 = some (.agg #[.int .u64 0, .int .u64 0, .int .u64 0, .int .u64 0]) := by kernel_rfl
theorem begL_lt : ∀ x ∈ [startT 0, startT 1, startT 2, startT 3], x < 18446744073709551616 := by decide
/-- What begun lays: the first k lanes. -/
def begTo (k : Nat) : List Nat := (List.range 4).map (fun i => if i < k then startT i else 0)
theorem begTo_len (k : Nat) : (begTo k).length = 4 := by unfold begTo; simp
theorem begTo_at {k p : Nat} (hp : p < 4) : (begTo k)[p]? = some (if p < k then startT p else 0) := by
  unfold begTo; rw [List.getElem?_map, List.getElem?_range hp]; rfl
theorem begTo_next {k : Nat} (hk : k < 4) : (begTo k).set k (startT k) = begTo (k + 1) := by
  apply List.ext_getElem?
  intro p
  rw [List.getElem?_set, begTo_len]
  by_cases hp : p < 4
  · rw [begTo_at hp, begTo_at hp]
    by_cases e : k = p
    · subst e; rw [if_pos rfl, if_pos hk, if_pos (by omega)]
    · rw [if_neg e]
      by_cases e2 : p < k
      · rw [if_pos e2, if_pos (by omega)]
      · rw [if_neg e2, if_neg (by omega)]
  · rw [if_neg (by omega), List.getElem?_eq_none (by rw [begTo_len]; omega), List.getElem?_eq_none (by rw [begTo_len]; omega)]
def begL : List Nat := begTo 4
theorem begL_len : begL.length = 4 := begTo_len 4
theorem lanV_ext {l : List Nat} (hl : l.length = 4) : (lanV l).extract 0 (0 + 4) = lanV l := by
  apply Array.ext'
  have := uV_len l
  unfold lanV
  simp
  exact List.take_of_length_le (by omega)
set_option maxRecDepth 20000 in
set_option maxHeartbeats 4000000 in
theorem begun_h   (w : World) : Calls Tryd.prog 51 #[] w fun e w' => e = .returned (.agg (lanV begL)) ∧ S w' [Old w no] := by
  have H0 := S.old w
  refine enter 15 Tryd.func51 rfl rfl rfl ?_
  refine g_weak [] trivial ?_
  refine g_seq ?_
  refine g_region ?_
  refine l_of (s_alloc H0 (wt0 rfl) rfl rfl rfl ze81 ?_)
  intro g1 wq2 H3
  replace H3 : S wq2 [Ob g1 (.cells (lanV (begTo 0)) 81 (0, 0)), Old w no] := H3
  refine g_nil ?_
  refine g_then ?_
  refine g_seq ?_
  refine g_region ?_
  refine l_of (s_alloc H3 (wt0 rfl) rfl rfl rfl ze81 ?_)
  intro g4 wq5 H6
  replace H6 : S wq5 [Ob g4 (.cells (lanV (begTo 0)) 81 (0, 0)), Ob g1 (.cells (lanV (begTo 0)) 81 (0, 0)), Old w no] := H6
  refine g_nil ?_
  refine g_then ?_
  refine g_seq ?_
  refine g_seq ?_
  refine g_region ?_
  refine l_of (s_val (v := .int .i64 0) (wt0 rfl) rfl rfl (x_move rfl rfl) ?_)
  refine g_nil ?_
  refine g_then ?_
  refine g_block ?_
  refine g_loop (ι := Nat) (fun k => [(0, .pointer (some ⟨g1, 0, none⟩)), (1, .pointer (some ⟨g4, 0, none⟩)), (3, .int .i64 ((k : Int)))]) (fun k wx => (k ≤ 4) ∧ S wx [Ob g4 (.cells (lanV (begTo k)) 81 (0, 0)), Ob g1 (.cells (lanV (begTo 0)) 81 (0, 0)), Old w no]) (fun k => 4 - k) (0) ⟨rfl, rfl, rfl, trivial⟩ ⟨Nat.zero_le _, (H6.takes [0, 1, 2] (by decide))⟩ ?_
  rintro k wq7 ⟨hk, H8⟩
  replace H8 : S wq7 [Ob g4 (.cells (lanV (begTo k)) 81 (0, 0)), Ob g1 (.cells (lanV (begTo 0)) 81 (0, 0)), Old w no] := H8
  refine g_weak [(0, .pointer (some ⟨g1, 0, none⟩)), (1, .pointer (some ⟨g4, 0, none⟩)), (3, .int .i64 ((k : Int)))] ⟨rfl, rfl, rfl, trivial⟩ ?_
  refine g_seq ?_
  refine g_region ?_
  refine l_of (s_val (v := .bool (decide (((k : Int) : Int) < 4))) (wt0 rfl) rfl rfl (x_bin rfl rfl rfl b_lss) ?_)
  refine g_nil ?_
  refine g_then ?_
  refine g_seq ?_
  by_cases hb9 : ((k : Int) : Int) < 4
  · skip
    refine g_cond_t rfl (decide_eq_true hb9) ?_
    refine g_skip ?_
    refine g_then ?_
    refine g_seq ?_
    refine g_block ?_
    refine g_seq ?_
    refine g_region ?_
    refine l_of (s_val (v := .int .i64 ((k : Int))) (wt0 rfl) rfl rfl (x_move rfl rfl) ?_)
    refine l_of (s_val (v := .int .i64 ((k : Int))) (wt0 rfl) rfl rfl (x_assign rfl rfl) ?_)
    refine g_nil ?_
    refine g_then ?_
    refine g_region ?_
    refine l_of (s_val (v := .int .i64 ((k : Int))) (wt0 rfl) rfl rfl (x_move rfl rfl) ?_)
    refine l_of (s_val (v := .int .i64 ((k : Int))) (wt0 rfl) rfl rfl (x_move rfl rfl) ?_)
    refine l_of (s_val (v := .int .u64 ((k : Int))) (wt0 rfl) rfl rfl (x_conv rfl rfl Tryd.underlying3 Tryd.underlying78 (wrapU (by omega))) ?_)
    refine l_of (s_val (v := .int .u64 (((k * 11400714819323198485 % 18446744073709551616 : Nat) : Int))) (wt0 rfl) rfl rfl (x_bin rfl rfl rfl (b_mulU k 11400714819323198485)) ?_)
    refine l_of (s_val (v := .int .u64 (((startT k : Nat) : Int))) (wt0 rfl) rfl rfl (x_bin rfl rfl rfl (b_addU 14695981039346656037 (k * 11400714819323198485 % 18446744073709551616))) ?_)
    refine l_of (s_val (v := .pointer (some ⟨g4, 0, none⟩)) (wt0 rfl) rfl rfl (x_fieldAddr rfl rfl fo81_0 rfl) ?_)
    refine l_of (s_val (v := .pointer (some ⟨g4, k, none⟩)) (wt0 rfl) rfl rfl (x_indexAddrA k rfl rfl rfl Tryd.underlying79 sz78 (by omega) (off' := k) (by omega)) ?_)
    refine l_of (s_store1 H8 0 (wt0 rfl) rfl rfl rfl rfl rfl sz78 rfl rfl (by rw [lanV_size]; simp [begTo_len]; omega) ?_)
    intro wq10 H11
    rw [lanV_set (l := (begTo k)) (i := k) (x := (startT k)) (by simp [begTo_len]; omega)] at H11
    replace H11 : S wq10 [Ob g4 (.cells (lanV ((begTo k).set k (startT k))) 81 (0, 0)), Ob g1 (.cells (lanV (begTo 0)) 81 (0, 0)), Old w no] := H11
    refine g_nil ?_
    refine g_in ?_
    refine g_then ?_
    refine g_region ?_
    refine l_of (s_val (v := .int .i64 ((k : Int) + 1)) (wt0 rfl) rfl rfl (x_bin rfl rfl rfl (b_add (w64 (by omega)))) ?_)
    refine l_of (s_val (v := .int .i64 ((k : Int) + 1)) (wt0 rfl) rfl rfl (x_move rfl rfl) ?_)
    refine g_nil ?_
    refine g_then ?_
    refine g_round (i := (k)) (k + 1) ?_ ?_ ?_
    · exact ⟨rfl, rfl, rfl, trivial⟩
    · exact ⟨by omega, (by rw [← begTo_next (by omega)]; exact (H11.takes [0, 1, 2] (by decide)))⟩
    · (try dsimp only); omega
  · skip
    refine g_cond_f rfl (decide_eq_false hb9) ?_
    refine g_exit ?_
    refine g_then_exit ?_
    refine g_then_exit ?_
    refine g_in_hit ?_
    refine g_then ?_
    refine g_seq ?_
    refine g_region ?_
    refine l_of (s_val (v := .agg (lanV (begTo k))) (wt0 rfl) rfl rfl (x_loadA H8 0 rfl rfl Tryd.underlying81 rfl sz81 rfl (Nat.ble_eq_true_of_le (by rw [lanV_size, begTo_len]; omega)) (lanV_ext (begTo_len _))) ?_)
    refine l_of (s_store H8 1 (wt0 rfl) rfl rfl rfl rfl rfl sz81 rfl rfl (cs' := lanV (begTo k)) (by simp [Value.cells, lanV, uV_len, begTo_len]) ?_)
    intro wq12 H13
    replace H13 : S wq12 [Ob g4 (.cells (lanV (begTo k)) 81 (0, 0)), Ob g1 (.cells (lanV (begTo k)) 81 (0, 0)), Old w no] := H13
    refine g_nil ?_
    refine g_then ?_
    refine g_ret ?_
    refine fin_ret [.cell 0 81] [.agg (lanV (begTo k))] rfl ⟨⟨_, rfl, run_loadA (H13.ob (k := 1) rfl) Tryd.underlying81 rfl sz81 rfl rfl⟩, trivial⟩ ?_
    have hk4 : k = 4 := by omega
    subst hk4
    exact ⟨rfl, H13.mask [false, false, true]⟩
set_option maxRecDepth 20000 in
set_option maxHeartbeats 4000000 in
theorem newh_h   (w : World) : Calls Tryd.prog 45 #[] w fun e w' => ∃ g, e = .returned (.pointer (some ⟨g, 0, none⟩)) ∧ S w' ([Ob g (.cells (hashV begL 0) 84 (0, 0))] ++ [Old w no]) := by
  have H0 := S.old w
  refine enter 4 Tryd.func45 rfl rfl rfl ?_
  refine g_weak [] trivial ?_
  refine g_seq ?_
  refine g_region ?_
  refine l_of (s_val (v := .pointer none) (wt0 rfl) rfl rfl (x_assign rfl rfl) ?_)
  refine g_nil ?_
  refine g_then ?_
  refine g_seq ?_
  refine g_region ?_
  refine l_of (s_call (wt0 rfl) (x_call' rfl rfl cl51) (begun_h _) ?_)
  rintro _ wq1 ⟨rfl, H2⟩
  replace H2 : S wq1 [Old w no] := H0.absorb (new := []) H2
  refine b_ret rfl rfl ?_
  refine l_of (s_val (v := .agg (hashV begL 0)) (wt0 rfl) rfl rfl (x_build (vs := [.agg (lanV begL)]) rfl rfl (cells := hashV begL 0) (by kernel_rfl)) ?_)
  refine l_of (s_box H2 (wt0 rfl) rfl rfl rfl rfl ?_)
  intro g3 wq4 H5
  replace H5 : S wq4 [Ob g3 (.cells (hashV begL 0) 84 (0, 0)), Old w no] := H5
  refine l_of (s_val (v := .pointer (some ⟨g3, 0, none⟩)) (wt0 rfl) rfl rfl (x_assign rfl rfl) ?_)
  refine g_nil ?_
  refine g_then ?_
  refine g_ret ?_
  refine fin_ret [.tmp 0] [.pointer (some ⟨g3, 0, none⟩)] rfl ⟨rfl, trivial⟩ ?_
  exact ⟨_, rfl, H5⟩
theorem getD_u {l : List Nat} (h : ∀ x ∈ l, x < 18446744073709551616) (i : Nat) : l.getD i 0 < 18446744073709551616 := by
  rw [List.getD_eq_getElem?_getD]
  cases hq : l[i]? with
  | none => show (0 : Nat) < _; omega
  | some x => exact h x (List.mem_of_getElem? hq)
set_option maxRecDepth 20000 in
set_option maxHeartbeats 4000000 in
set_option maxRecDepth 20000 in
set_option maxHeartbeats 4000000 in
theorem take_h (gh n : Nat) (l : List Nat) (hl : l.length = 4) (hlt : ∀ x ∈ l, x < 18446744073709551616) (b : Nat) (hb : b < 256) (w : World) (HB : S w [Ob gh (.cells (hashV l n) 84 (0, 0))]) : Calls Tryd.prog 53 #[.pointer (some ⟨gh, 0, none⟩), .int .u8 (b : Int)] w fun e w' => e = .returned (.tuple #[]) ∧ S w' ([Ob gh (.cells (hashV (l.map (mixT · b)) n) 84 (0, 0))] ++ [Old w (fps [Ob gh (.cells (hashV l n) 84 (0, 0))])]) := by
  have H0 : S w [Ob gh (.cells (hashV l n) 84 (0, 0)), Old w (fps [Ob gh (.cells (hashV l n) 84 (0, 0))])] := HB.beginI
  refine enter 29 Tryd.func53 rfl rfl rfl ?_
  refine g_weak [(0, .pointer (some ⟨gh, 0, none⟩)), (1, .int .u8 ((b : Int)))] ⟨rfl, rfl, trivial⟩ ?_
  refine g_seq ?_
  refine g_region ?_
  refine l_of (s_val (v := .pointer (some ⟨gh, 0, none⟩)) (wt0 rfl) rfl rfl (x_move rfl rfl) ?_)
  refine l_of (s_val (v := .pointer (some ⟨gh, 0, none⟩)) (wt0 rfl) rfl rfl (x_nilCheck rfl rfl) ?_)
  refine l_of (s_val (v := .pointer (some ⟨gh, 0, none⟩)) (wt0 rfl) rfl rfl (x_fieldAddr rfl rfl fo81_0 rfl) ?_)
  refine l_of (s_val (v := .agg (lanV l)) (wt0 rfl) rfl rfl (x_loadA H0 0 rfl rfl Tryd.underlying79 rfl sz79 rfl (Nat.ble_eq_true_of_le (by rw [hashV_size]; omega)) (hashV_ext hl)) ?_)
  refine l_of (s_val (v := .int .i64 0) (wt0 rfl) rfl rfl (x_move rfl rfl) ?_)
  refine g_nil ?_
  refine g_then ?_
  refine g_block ?_
  refine g_loop (ι := Nat) (fun k => [(0, .pointer (some ⟨gh, 0, none⟩)), (1, .int .u8 ((b : Int))), (9, .agg (lanV l)), (10, .int .i64 ((k : Int)))]) (fun k wx => (k ≤ 4) ∧ S wx [Ob gh (.cells (hashV (takeTo k b l) n) 84 (0, 0)), Old w (fps [Ob gh (.cells (hashV l n) 84 (0, 0))])]) (fun k => 4 - k) (0) ⟨rfl, rfl, rfl, rfl, trivial⟩ ⟨Nat.zero_le _, (by rw [takeTo_zero]; exact H0)⟩ ?_
  rintro k wq1 ⟨hk, H2⟩
  replace H2 : S wq1 [Ob gh (.cells (hashV (takeTo k b l) n) 84 (0, 0)), Old w (fps [Ob gh (.cells (hashV l n) 84 (0, 0))])] := H2
  refine g_weak [(0, .pointer (some ⟨gh, 0, none⟩)), (1, .int .u8 ((b : Int))), (9, .agg (lanV l)), (10, .int .i64 ((k : Int)))] ⟨rfl, rfl, rfl, rfl, trivial⟩ ?_
  have hgl : l.getD k 0 < 18446744073709551616 := getD_u hlt k
  have hx := u64_xor hgl (show b < 18446744073709551616 by omega)
  have hX : ((l.getD k 0 ^^^ b) * 1099511628211 % 18446744073709551616) < 18446744073709551616 := Nat.mod_lt _ (by omega)
  have hX2 : ((l.getD k 0 ^^^ b) * 1099511628211 % 18446744073709551616) / 536870912 ≤ ((l.getD k 0 ^^^ b) * 1099511628211 % 18446744073709551616) := Nat.div_le_self _ _
  refine g_seq ?_
  refine g_region ?_
  refine l_of (s_val (v := .bool (decide (((k : Int) : Int) < 4))) (wt0 rfl) rfl rfl (x_bin rfl rfl rfl b_lss) ?_)
  refine g_nil ?_
  refine g_then ?_
  refine g_seq ?_
  by_cases hb3 : ((k : Int) : Int) < 4
  · skip
    refine g_cond_t rfl (decide_eq_true hb3) ?_
    refine g_skip ?_
    refine g_then ?_
    refine g_seq ?_
    refine g_block ?_
    refine g_seq ?_
    refine g_region ?_
    refine l_of (s_val (v := .int .i64 ((k : Int))) (wt0 rfl) rfl rfl (x_move rfl rfl) ?_)
    refine l_of (s_val (v := .int .u64 (((l.getD k 0 : Nat) : Int))) (wt0 rfl) rfl rfl (x_indexW k rfl rfl rfl Tryd.underlying79 sz78 Tryd.underlying78 rfl (by omega) (lanV_at (by omega))) ?_)
    refine l_of (s_val (v := .int .i64 ((k : Int))) (wt0 rfl) rfl rfl (x_assign rfl rfl) ?_)
    refine l_of (s_val (v := .int .u64 (((l.getD k 0 : Nat) : Int))) (wt0 rfl) rfl rfl (x_assign rfl rfl) ?_)
    refine g_nil ?_
    refine g_then ?_
    refine g_seq ?_
    refine g_region ?_
    refine l_of (s_val (v := .int .u64 (((l.getD k 0 : Nat) : Int))) (wt0 rfl) rfl rfl (x_move rfl rfl) ?_)
    refine l_of (s_val (v := .int .u8 ((b : Int))) (wt0 rfl) rfl rfl (x_move rfl rfl) ?_)
    refine l_of (s_val (v := .int .u64 ((b : Int))) (wt0 rfl) rfl rfl (x_conv rfl rfl Tryd.underlying5 Tryd.underlying78 (wrapU (by omega))) ?_)
    refine l_of (s_val (v := .int .u64 (((l.getD k 0 ^^^ b : Nat) : Int))) (wt0 rfl) rfl rfl (x_bin rfl rfl rfl (b_xorU (a := l.getD k 0) (b := b) (by omega))) ?_)
    refine l_of (s_val (v := .int .u64 (((((l.getD k 0 ^^^ b) * 1099511628211 % 18446744073709551616) : Nat) : Int))) (wt0 rfl) rfl rfl (x_bin rfl rfl rfl (b_mulU (l.getD k 0 ^^^ b) 1099511628211)) ?_)
    refine l_of (s_val (v := .int .u64 (((((l.getD k 0 ^^^ b) * 1099511628211 % 18446744073709551616) : Nat) : Int))) (wt0 rfl) rfl rfl (x_assign rfl rfl) ?_)
    refine g_nil ?_
    refine g_then ?_
    refine g_region ?_
    refine l_of (s_val (v := .pointer (some ⟨gh, 0, none⟩)) (wt0 rfl) rfl rfl (x_move rfl rfl) ?_)
    refine l_of (s_val (v := .int .i64 ((k : Int))) (wt0 rfl) rfl rfl (x_move rfl rfl) ?_)
    refine l_of (s_val (v := .int .u64 (((((l.getD k 0 ^^^ b) * 1099511628211 % 18446744073709551616) : Nat) : Int))) (wt0 rfl) rfl rfl (x_move rfl rfl) ?_)
    refine l_of (s_val (v := .int .u64 (((((l.getD k 0 ^^^ b) * 1099511628211 % 18446744073709551616) : Nat) : Int))) (wt0 rfl) rfl rfl (x_move rfl rfl) ?_)
    refine l_of (s_val (v := .int .u64 (((((l.getD k 0 ^^^ b) * 1099511628211 % 18446744073709551616) / 536870912 : Nat) : Int))) (wt0 rfl) rfl rfl (x_bin rfl rfl rfl (b_shrN (a := ((l.getD k 0 ^^^ b) * 1099511628211 % 18446744073709551616)) (n := 29) (by decide))) ?_)
    refine l_of (s_val (v := .int .u64 (((mixT (l.getD k 0) b : Nat) : Int))) (wt0 rfl) rfl rfl (x_bin rfl rfl rfl (b_xorU (a := ((l.getD k 0 ^^^ b) * 1099511628211 % 18446744073709551616)) (b := ((l.getD k 0 ^^^ b) * 1099511628211 % 18446744073709551616) / 536870912) (by omega))) ?_)
    refine l_of (s_val (v := .pointer (some ⟨gh, 0, none⟩)) (wt0 rfl) rfl rfl (x_nilCheck rfl rfl) ?_)
    refine l_of (s_val (v := .pointer (some ⟨gh, 0, none⟩)) (wt0 rfl) rfl rfl (x_fieldAddr rfl rfl fo81_0 rfl) ?_)
    refine l_of (s_val (v := .pointer (some ⟨gh, k, none⟩)) (wt0 rfl) rfl rfl (x_indexAddrA k rfl rfl rfl Tryd.underlying79 sz78 (by omega) (off' := k) (by omega)) ?_)
    refine l_of (s_store1 H2 0 (wt0 rfl) rfl rfl rfl rfl rfl sz78 rfl rfl (by rw [hashV_size, takeTo_len]; omega) ?_)
    intro wq4 H5
    rw [hashV_set (l := (takeTo k b l)) (i := k) (x := (mixT (l.getD k 0) b)) (by rw [takeTo_len]; omega)] at H5
    replace H5 : S wq4 [Ob gh (.cells (hashV ((takeTo k b l).set k (mixT (l.getD k 0) b)) n) 84 (0, 0)), Old w (fps [Ob gh (.cells (hashV l n) 84 (0, 0))])] := H5
    refine g_nil ?_
    refine g_in ?_
    refine g_then ?_
    refine g_weak [(0, .pointer (some ⟨gh, 0, none⟩)), (1, .int .u8 ((b : Int))), (9, .agg (lanV l)), (10, .int .i64 ((k : Int)))] ⟨rfl, rfl, rfl, rfl, trivial⟩ ?_
    refine g_region ?_
    refine l_of (s_val (v := .int .i64 ((k : Int) + 1)) (wt0 rfl) rfl rfl (x_bin rfl rfl rfl (b_add (w64 (by omega)))) ?_)
    refine l_of (s_val (v := .int .i64 ((k : Int) + 1)) (wt0 rfl) rfl rfl (x_move rfl rfl) ?_)
    refine g_nil ?_
    refine g_then ?_
    refine g_round (i := (k)) (k + 1) ?_ ?_ ?_
    · exact ⟨rfl, rfl, rfl, rfl, trivial⟩
    · exact ⟨by omega, (by rw [← takeTo_next (by omega)]; exact H5)⟩
    · (try dsimp only); omega
  · skip
    refine g_cond_f rfl (decide_eq_false hb3) ?_
    refine g_exit ?_
    refine g_then_exit ?_
    refine g_then_exit ?_
    refine g_in_hit ?_
    refine fin_end [] [] rfl trivial ?_
    have hk4 : k = l.length := by omega
    subst hk4
    exact ⟨rfl, by rw [← takeTo_all]; exact H2.mask [true, true]⟩
theorem lanes_lt {s : ByteArray} {l : List Nat} (h : ∀ x ∈ l, x < 18446744073709551616) (i : Nat) : ∀ x ∈ l.map (laneP s · i), x < 18446744073709551616 := fun x hx => by
  obtain ⟨y, hy, rfl⟩ := List.mem_map.1 hx
  exact laneP_lt (h y hy) i
theorem lanes_next (s : ByteArray) (l : List Nat) (i : Nat) : (l.map (laneP s · i)).map (mixT · (bt' s i)) = l.map (laneP s · (i + 1)) := by rw [List.map_map]; rfl
theorem lanes_zero (s : ByteArray) (l : List Nat) : l.map (laneP s · 0) = l := by
  conv => rhs; rw [← List.map_id l]
  rfl
set_option maxRecDepth 20000 in
set_option maxHeartbeats 4000000 in
set_option maxRecDepth 20000 in
set_option maxHeartbeats 4000000 in
theorem each_h (gh n : Nat) (l : List Nat) (hl : l.length = 4) (hlt : ∀ x ∈ l, x < 18446744073709551616) (s : ByteArray) (hs : s.size ≤ 1099511627776) (w : World) (HB : S w [Ob gh (.cells (hashV l n) 84 (0, 0))]) : Calls Tryd.prog 52 #[.string s, .func (.func 53) #[.pointer (some ⟨gh, 0, none⟩)] #[]] w fun e w' => e = .returned (.tuple #[]) ∧ S w' ([Ob gh (.cells (hashV (l.map (laneP s · s.size)) n) 84 (0, 0))] ++ [Old w (fps [Ob gh (.cells (hashV l n) 84 (0, 0))])]) := by
  have H0 : S w [Ob gh (.cells (hashV l n) 84 (0, 0)), Old w (fps [Ob gh (.cells (hashV l n) 84 (0, 0))])] := HB.beginI
  refine enter 16 Tryd.func52 rfl rfl rfl ?_
  refine g_weak [(0, .string s), (1, .func (.func 53) #[.pointer (some ⟨gh, 0, none⟩)] #[])] ⟨rfl, rfl, trivial⟩ ?_
  refine g_seq ?_
  refine g_region ?_
  refine l_of (s_val (v := .string s) (wt0 rfl) rfl rfl (x_move rfl rfl) ?_)
  refine l_of (s_val (v := .int .i64 ((s.size : Int))) (wt0 rfl) rfl rfl (x_lens rfl rfl Tryd.underlying9) ?_)
  refine l_of (s_val (v := .int .i64 0) (wt0 rfl) rfl rfl (x_move rfl rfl) ?_)
  refine g_nil ?_
  refine g_then ?_
  refine g_block ?_
  refine g_loop (ι := Nat) (fun i => [(0, .string s), (1, .func (.func 53) #[.pointer (some ⟨gh, 0, none⟩)] #[]), (6, .int .i64 ((s.size : Int))), (7, .int .i64 ((i : Int)))]) (fun i wx => (i ≤ s.size) ∧ S wx [Ob gh (.cells (hashV (l.map (laneP s · i)) n) 84 (0, 0)), Old w (fps [Ob gh (.cells (hashV l n) 84 (0, 0))])]) (fun i => s.size - i) (0) ⟨rfl, rfl, rfl, rfl, trivial⟩ ⟨Nat.zero_le _, (by rw [lanes_zero]; exact H0)⟩ ?_
  rintro i wq1 ⟨hi, H2⟩
  replace H2 : S wq1 [Ob gh (.cells (hashV (l.map (laneP s · i)) n) 84 (0, 0)), Old w (fps [Ob gh (.cells (hashV l n) 84 (0, 0))])] := H2
  refine g_weak [(0, .string s), (1, .func (.func 53) #[.pointer (some ⟨gh, 0, none⟩)] #[]), (6, .int .i64 ((s.size : Int))), (7, .int .i64 ((i : Int)))] ⟨rfl, rfl, rfl, rfl, trivial⟩ ?_
  refine g_seq ?_
  refine g_region ?_
  refine l_of (s_val (v := .bool (decide (((i : Int) : Int) < (s.size : Int)))) (wt0 rfl) rfl rfl (x_bin rfl rfl rfl b_lss) ?_)
  refine g_nil ?_
  refine g_then ?_
  refine g_seq ?_
  by_cases hb3 : ((i : Int) : Int) < (s.size : Int)
  · skip
    refine g_cond_t rfl (decide_eq_true hb3) ?_
    refine g_skip ?_
    refine g_then ?_
    refine g_seq ?_
    refine g_block ?_
    refine g_seq ?_
    refine g_region ?_
    refine l_of (s_val (v := .int .i64 ((i : Int))) (wt0 rfl) rfl rfl (x_move rfl rfl) ?_)
    refine l_of (s_val (v := .int .i64 ((i : Int))) (wt0 rfl) rfl rfl (x_assign rfl rfl) ?_)
    refine g_nil ?_
    refine g_then ?_
    refine g_region ?_
    refine l_of (s_val (v := .func (.func 53) #[.pointer (some ⟨gh, 0, none⟩)] #[]) (wt0 rfl) rfl rfl (x_move rfl rfl) ?_)
    refine l_of (s_val (v := .string s) (wt0 rfl) rfl rfl (x_move rfl rfl) ?_)
    refine l_of (s_val (v := .int .i64 ((i : Int))) (wt0 rfl) rfl rfl (x_move rfl rfl) ?_)
    have hbt4 := bt'_lt s i
    refine l_of (s_val (v := .int .u8 ((bt' s i : Int))) (wt0 rfl) rfl rfl (x_index i rfl rfl rfl Tryd.underlying9 (by omega)) ?_)
    refine l_of (s_call (wt0 rfl) (x_call rfl rfl rfl cl53) (take_h gh n (l.map (laneP s · i)) (by simp [hl]) (lanes_lt hlt i) (bt' s i) (bt'_lt s i) _ (H2.takes [0] (by decide))) ?_)
    rintro _ wq5 ⟨rfl, H6⟩
    rw [lanes_next] at H6
    replace H6 : S wq5 [Ob gh (.cells (hashV (l.map (laneP s · (i + 1))) n) 84 (0, 0)), Old w (fps [Ob gh (.cells (hashV l n) 84 (0, 0))])] := H2.absorbI (new := [Ob gh (.cells (hashV (l.map (laneP s · (i + 1))) n) 84 (0, 0))]) [0] H6
    refine b_ret rfl rfl ?_
    refine g_nil ?_
    refine g_in ?_
    refine g_then ?_
    refine g_region ?_
    refine l_of (s_val (v := .int .i64 ((i : Int) + 1)) (wt0 rfl) rfl rfl (x_bin rfl rfl rfl (b_add (w64 (by omega)))) ?_)
    refine l_of (s_val (v := .int .i64 ((i : Int) + 1)) (wt0 rfl) rfl rfl (x_move rfl rfl) ?_)
    refine g_nil ?_
    refine g_then ?_
    refine g_round (i := (i)) (i + 1) ?_ ?_ ?_
    · exact ⟨rfl, rfl, rfl, rfl, trivial⟩
    · exact ⟨by omega, H6⟩
    · (try dsimp only); omega
  · skip
    refine g_cond_f rfl (decide_eq_false hb3) ?_
    refine g_exit ?_
    refine g_then_exit ?_
    refine g_then_exit ?_
    refine g_in_hit ?_
    refine fin_end [] [] rfl trivial ?_
    have his : i = s.size := by omega
    exact ⟨rfl, by rw [← his]; exact H2.mask [true, true]⟩
set_option maxRecDepth 20000 in
set_option maxHeartbeats 4000000 in
set_option maxRecDepth 20000 in
set_option maxHeartbeats 4000000 in
theorem addh_h (gh n : Nat) (l : List Nat) (hl : l.length = 4) (hlt : ∀ x ∈ l, x < 18446744073709551616) (s : ByteArray) (hs : s.size ≤ 1099511627776) (hn : n ≤ 1099511627776) (w : World) (HB : S w [Ob gh (.cells (hashV l n) 84 (0, 0))]) : Calls Tryd.prog 46 #[.pointer (some ⟨gh, 0, none⟩), .string s] w fun e w' => e = .returned (.tuple #[]) ∧ S w' ([Ob gh (.cells (hashV (l.map (laneP s · s.size)) (n + s.size)) 84 (0, 0))] ++ [Old w (fps [Ob gh (.cells (hashV l n) 84 (0, 0))])]) := by
  have H0 : S w [Ob gh (.cells (hashV l n) 84 (0, 0)), Old w (fps [Ob gh (.cells (hashV l n) 84 (0, 0))])] := HB.beginI
  refine enter 21 Tryd.func46 rfl rfl rfl ?_
  refine g_weak [(0, .pointer (some ⟨gh, 0, none⟩)), (1, .string s)] ⟨rfl, rfl, trivial⟩ ?_
  refine g_seq ?_
  refine g_seq ?_
  refine g_region ?_
  refine l_of (s_val (v := .pointer (some ⟨gh, 0, none⟩)) (wt0 rfl) rfl rfl (x_move rfl rfl) ?_)
  refine l_of (s_val (v := .bool false) (wt0 rfl) rfl rfl (x_bin rfl rfl rfl (b_eqN (r := false) Tryd.underlying73 rfl)) ?_)
  refine g_nil ?_
  refine g_then ?_
  refine g_cond_f rfl rfl ?_
  refine g_skip ?_
  refine g_then ?_
  refine g_seq ?_
  refine g_region ?_
  refine l_of (s_val (v := .string s) (wt0 rfl) rfl rfl (x_move rfl rfl) ?_)
  refine l_of (s_val (v := .pointer (some ⟨gh, 0, none⟩)) (wt0 rfl) rfl rfl (x_move rfl rfl) ?_)
  refine l_of (s_val (v := .pointer (some ⟨gh, 0, none⟩)) (wt0 rfl) rfl rfl (x_nilCheck rfl rfl) ?_)
  refine l_of (s_val (v := .pointer (some ⟨gh, 0, none⟩)) (wt0 rfl) rfl rfl (x_fieldAddr rfl rfl fo84_0 rfl) ?_)
  refine l_of (s_val (v := .func (.func 53) #[.pointer (some ⟨gh, 0, none⟩)] #[]) (wt0 rfl) rfl rfl (x_makeFunc rfl rfl rfl) ?_)
  refine l_of (s_call (wt0 rfl) (x_call' rfl rfl cl52) (each_h gh n l hl hlt s hs _ (H0.takes [0] (by decide))) ?_)
  rintro _ wq1 ⟨rfl, H2⟩
  replace H2 : S wq1 [Ob gh (.cells (hashV (l.map (laneP s · s.size)) n) 84 (0, 0)), Old w (fps [Ob gh (.cells (hashV l n) 84 (0, 0))])] := H0.absorbI (new := [Ob gh (.cells (hashV (l.map (laneP s · s.size)) n) 84 (0, 0))]) [0] H2
  refine b_ret rfl rfl ?_
  refine g_nil ?_
  refine g_then ?_
  refine g_region ?_
  refine l_of (s_val (v := .pointer (some ⟨gh, 0, none⟩)) (wt0 rfl) rfl rfl (x_move rfl rfl) ?_)
  refine l_of (s_val (v := .pointer (some ⟨gh, 0, none⟩)) (wt0 rfl) rfl rfl (x_nilCheck rfl rfl) ?_)
  refine l_of (s_val (v := .pointer (some ⟨gh, 4, none⟩)) (wt0 rfl) rfl rfl (x_fieldAddr rfl rfl fo84_1 rfl) ?_)
  refine l_of (s_val (v := .int .i64 ((n : Int))) (wt0 rfl) rfl rfl (x_load1 H2 0 rfl rfl Tryd.underlying3 rfl rfl (hashV_at (by first | omega | (simp only [List.length_map, takeTo_len]; omega)))) ?_)
  refine l_of (s_val (v := .string s) (wt0 rfl) rfl rfl (x_move rfl rfl) ?_)
  refine l_of (s_val (v := .int .i64 ((s.size : Int))) (wt0 rfl) rfl rfl (x_lens rfl rfl Tryd.underlying9) ?_)
  refine l_of (s_val (v := .int .i64 (((n + s.size : Nat) : Int))) (wt0 rfl) rfl rfl (x_bin rfl rfl rfl (b_addN (a := n) (b := s.size) (by omega))) ?_)
  refine l_of (s_val (v := .pointer (some ⟨gh, 0, none⟩)) (wt0 rfl) rfl rfl (x_nilCheck rfl rfl) ?_)
  refine l_of (s_val (v := .pointer (some ⟨gh, 4, none⟩)) (wt0 rfl) rfl rfl (x_fieldAddr rfl rfl fo84_1 rfl) ?_)
  refine l_of (s_store1 H2 0 (wt0 rfl) rfl rfl rfl rfl rfl sz3 rfl rfl (by rw [hashV_size]; first | omega | (simp only [List.length_map, takeTo_len]; omega)) ?_)
  intro wq3 H4
  rw [hashV_setN (l := (l.map (laneP s · s.size))) (n := n) (m := (n + s.size)) (by first | omega | (simp only [List.length_map, takeTo_len]; omega))] at H4
  replace H4 : S wq3 [Ob gh (.cells (hashV (l.map (laneP s · s.size)) (n + s.size)) 84 (0, 0)), Old w (fps [Ob gh (.cells (hashV l n) 84 (0, 0))])] := H4
  refine g_nil ?_
  refine fin_end [] [] rfl trivial ?_
  exact ⟨rfl, H4.mask [true, true]⟩
end Go.Proofs.YthfglkkjkpdkpaaDoor
