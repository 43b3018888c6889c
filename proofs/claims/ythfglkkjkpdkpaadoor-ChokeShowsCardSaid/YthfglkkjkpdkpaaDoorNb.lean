import Derived.Test.YthfglkkjkpdkpaaDoorNa
import Derived.Test.YthfglkkjkpdkpaaDoorFu
import Derived.Test.YthfglkkjkpdkpaaDoorShelf
set_option linter.unusedSimpArgs false
set_option linter.unusedVariables false
namespace Go.Proofs.YthfglkkjkpdkpaaDoor
open Go.RowKit

theorem cl23 : callable Tryd.prog 23 = true := by kernel_rfl
theorem cl40 : callable Tryd.prog 40 = true := by kernel_rfl
theorem cl42 : callable Tryd.prog 42 = true := by kernel_rfl
theorem cl50 : callable Tryd.prog 50 = true := by kernel_rfl
theorem inf3 : infO Tryd.prog 3 = some (some (.int .i64 0), 1, 8) := by kernel_rfl
theorem no_takeP {α : Type} {P : α → Prop} {l : List α} {k : Nat} {x : α} (h : ∀ y ∈ l.take k, P y) (hx : l[k]? = some x) (hq : P x) : ∀ y ∈ l.take (k + 1), P y := fun y hy => by
  rw [List.take_add_one, hx] at hy
  rcases List.mem_append.1 hy with hy | hy
  · exact h y hy
  · have e := Option.some.inj (Option.mem_toList.1 hy); rw [← e]; exact hq
theorem at_mem {l : List Int} {j : Nat} {x : Int} (h : l[j]? = some x) : x ∈ l := List.mem_of_getElem? h
theorem take_snocL {α : Type} {l : List α} {k : Nat} {x : α} (h : l[k]? = some x) : l.take (k + 1) = l.take k ++ [x] := by rw [List.take_add_one, h]; rfl
set_option maxRecDepth 20000 in
set_option maxHeartbeats 4000000 in
set_option maxRecDepth 20000 in
set_option maxHeartbeats 4000000 in
theorem ix_i (l : List Int) (p : Option Addr) (n c : Nat) (x : Int) (hn : n ≤ 9223372036854775807)  (w : World) (hr : Reads w p n c 1 (fl intL l)) : Calls Tryd.prog 42 #[.slice p n c, .int .i64 x] w fun e w' => ∃ k : Int, e = .returned (.int .i64 k) ∧ (0 ≤ k ↔ x ∈ l) ∧ S w' [Old w no] := by
  have H0 := S.old w
  have hnl := hr.lenL intE
  refine enter 19 Tryd.func42 rfl rfl rfl ?_
  refine g_weak [(0, .slice p n c), (1, .int .i64 x)] ⟨rfl, rfl, trivial⟩ ?_
  refine g_seq ?_
  refine g_region ?_
  refine l_of (s_val (v := .int .i64 0) (wt0 rfl) rfl rfl (x_assign rfl rfl) ?_)
  refine g_nil ?_
  refine g_then ?_
  refine g_seq ?_
  refine g_seq ?_
  refine g_region ?_
  refine l_of (s_val (v := .slice p n c) (wt0 rfl) rfl rfl (x_move rfl rfl) ?_)
  refine l_of (s_val (v := .int .i64 ((n : Int))) (wt0 rfl) rfl rfl (x_lenl rfl rfl Tryd.underlying35) ?_)
  refine l_of (s_val (v := .int .i64 0) (wt0 rfl) rfl rfl (x_move rfl rfl) ?_)
  refine g_nil ?_
  refine g_then ?_
  refine g_block ?_
  refine g_loop (ι := Nat) (fun i => [(0, .slice p n c), (1, .int .i64 x), (7, .int .i64 ((n : Int))), (8, .int .i64 ((i : Int)))]) (fun i wx => (i ≤ n) ∧ (∀ y ∈ l.take i, ¬ x = y) ∧ S wx [Old w no]) (fun i => n - i) (0) ⟨rfl, rfl, rfl, rfl, trivial⟩ ⟨Nat.zero_le _, (fun y hy => by simp at hy), H0⟩ ?_
  rintro i wq1 ⟨hi, hno, H2⟩
  replace H2 : S wq1 [Old w no] := H2
  refine g_weak [(0, .slice p n c), (1, .int .i64 x), (7, .int .i64 ((n : Int))), (8, .int .i64 ((i : Int)))] ⟨rfl, rfl, rfl, rfl, trivial⟩ ?_
  refine g_seq ?_
  refine g_region ?_
  refine l_of (s_val (v := .bool (decide (((i : Int) : Int) < (n : Int)))) (wt0 rfl) rfl rfl (x_bin rfl rfl rfl b_lss) ?_)
  refine g_nil ?_
  refine g_then ?_
  refine g_seq ?_
  by_cases hb3 : ((i : Int) : Int) < (n : Int)
  · skip
    refine g_cond_t rfl (decide_eq_true hb3) ?_
    refine g_skip ?_
    refine g_then ?_
    refine g_seq ?_
    refine g_block ?_
    refine g_seq ?_
    refine g_region ?_
    refine l_of (s_val (v := .int .i64 ((i : Int))) (wt0 rfl) rfl rfl (x_move rfl rfl) ?_)
    refine l_of (s_val (v := .int .i64 ((i : Int))) (wt0 rfl) rfl rfl (x_assign rfl rfl) ?_)
    refine g_nil ?_
    refine g_then ?_
    refine g_seq ?_
    refine g_region ?_
    refine l_of (s_val (v := .int .i64 x) (wt0 rfl) rfl rfl (x_move rfl rfl) ?_)
    refine l_of (s_val (v := .slice p n c) (wt0 rfl) rfl rfl (x_move rfl rfl) ?_)
    refine l_of (s_val (v := .int .i64 ((i : Int))) (wt0 rfl) rfl rfl (x_move rfl rfl) ?_)
    refine l_of (s_val (v := .pointer ((p).map fun q => q.add (i * 1))) (wt0 rfl) rfl rfl (x_idxR i (H2.exReads (k := 0) rfl hr (fun _ _ _ h => h)) rfl rfl rfl Tryd.underlying35 sz3 (by omega)) ?_)
    have hlq := (H2.exReads (k := 0) rfl hr (fun _ _ _ h => h)).lenL intE
    obtain ⟨x4, hx4⟩ := ex_at (l := l) (j := i) (by omega)
    clear hlq
    refine l_of (s_val (v := .int .i64 x4) (wt0 rfl) rfl rfl (x_loadR1 i (H2.exReads (k := 0) rfl hr (fun _ _ _ h => h)) (by omega) rfl rfl Tryd.underlying3 rfl (intE.flAt1 hx4 rfl)) ?_)
    refine l_of (s_val (v := .bool (decide ((x : Int) = x4))) (wt0 rfl) rfl rfl (x_bin rfl rfl rfl b_eql) ?_)
    refine g_nil ?_
    refine g_then ?_
    by_cases hb5 : (x : Int) = x4
    · skip
      refine g_cond_t rfl (decide_eq_true hb5) ?_
      refine g_seq ?_
      refine g_region ?_
      refine l_of (s_val (v := .int .i64 ((i : Int))) (wt0 rfl) rfl rfl (x_move rfl rfl) ?_)
      refine l_of (s_val (v := .int .i64 ((i : Int))) (wt0 rfl) rfl rfl (x_assign rfl rfl) ?_)
      refine g_nil ?_
      refine g_then ?_
      refine g_weak [(4, .int .i64 ((i : Int)))] ⟨rfl, trivial⟩ ?_
      refine g_ret ?_
      refine g_in_ret ?_
      refine g_then_ret ?_
      refine g_then_ret ?_
      refine g_in_ret ?_
      refine g_then_ret ?_
      refine fin_ret [.tmp 4] [.int .i64 ((i : Int))] rfl ⟨rfl, trivial⟩ ?_
      exact ⟨_, rfl, ⟨fun _ => by rw [hb5]; exact at_mem hx4, fun _ => by omega⟩, H2.mask [true]⟩
    · skip
      refine g_cond_f rfl (decide_eq_false hb5) ?_
      refine g_skip ?_
      refine g_in ?_
      refine g_then ?_
      refine g_region ?_
      refine l_of (s_val (v := .int .i64 (((i + 1 : Nat) : Int))) (wt0 rfl) rfl rfl (x_bin rfl rfl rfl (b_add (by rw [w64 (by omega)]; omega))) ?_)
      refine l_of (s_val (v := .int .i64 (((i + 1 : Nat) : Int))) (wt0 rfl) rfl rfl (x_move rfl rfl) ?_)
      refine g_nil ?_
      refine g_then ?_
      refine g_round (i := (i)) ((i + 1)) ?_ ?_ ?_
      · exact ⟨rfl, rfl, rfl, rfl, trivial⟩
      · exact ⟨by omega, (no_takeP hno hx4 hb5), H2⟩
      · (try dsimp only); omega
  · skip
    refine g_cond_f rfl (decide_eq_false hb3) ?_
    refine g_exit ?_
    refine g_then_exit ?_
    refine g_then_exit ?_
    refine g_in_hit ?_
    refine g_then ?_
    refine g_seq ?_
    refine g_region ?_
    refine l_of (s_val (v := .int .i64 (-1)) (wt0 rfl) rfl rfl (x_assign rfl rfl) ?_)
    refine g_nil ?_
    refine g_then ?_
    refine g_ret ?_
    refine fin_ret [.tmp 4] [.int .i64 (-1)] rfl ⟨rfl, trivial⟩ ?_
    rw [List.take_of_length_le (by omega)] at hno
    exact ⟨_, rfl, ⟨fun h => absurd h (by decide), fun h => absurd rfl (hno x h)⟩, H2.mask [true]⟩
set_option maxRecDepth 20000 in
set_option maxHeartbeats 4000000 in
set_option maxRecDepth 20000 in
set_option maxHeartbeats 4000000 in
theorem cont_i (l : List Int) (p : Option Addr) (n c : Nat) (x : Int) (hn : n ≤ 9223372036854775807)  (w : World) (hr : Reads w p n c 1 (fl intL l)) : Calls Tryd.prog 33 #[.slice p n c, .int .i64 x] w fun e w' => e = .returned (.bool (decide (x ∈ l))) ∧ S w' [Old w no] := by
  have H0 := S.old w
  refine enter 9 Tryd.func33 rfl rfl rfl ?_
  refine g_weak [(0, .slice p n c), (1, .int .i64 x)] ⟨rfl, rfl, trivial⟩ ?_
  refine g_seq ?_
  refine g_region ?_
  refine l_of (s_val (v := .bool false) (wt0 rfl) rfl rfl (x_assign rfl rfl) ?_)
  refine g_nil ?_
  refine g_then ?_
  refine g_seq ?_
  refine g_region ?_
  refine l_of (s_val (v := .slice p n c) (wt0 rfl) rfl rfl (x_move rfl rfl) ?_)
  refine l_of (s_val (v := .int .i64 x) (wt0 rfl) rfl rfl (x_move rfl rfl) ?_)
  refine l_of (s_call (wt0 rfl) (x_call' rfl rfl cl42) (ix_i l p n c x hn _ (H0.exReads (k := 0) rfl hr (fun _ _ _ h => h))) ?_)
  rintro _ wq1 ⟨k, rfl, hk, H2⟩
  replace H2 : S wq1 [Old w no] := H0.absorb (new := []) H2
  refine b_ret rfl rfl ?_
  refine l_of (s_val (v := .bool (decide ((0 : Int) ≤ k))) (wt0 rfl) rfl rfl (x_bin rfl rfl rfl b_geq) ?_)
  refine l_of (s_val (v := .bool (decide ((0 : Int) ≤ k))) (wt0 rfl) rfl rfl (x_assign rfl rfl) ?_)
  refine g_nil ?_
  refine g_then ?_
  refine g_ret ?_
  refine fin_ret [.tmp 4] [.bool (decide ((0 : Int) ≤ k))] rfl ⟨rfl, trivial⟩ ?_
  exact ⟨by rw [decide_eq_decide.2 hk]; rfl, H2.mask [true]⟩
set_option maxRecDepth 20000 in
set_option maxHeartbeats 4000000 in
set_option maxRecDepth 20000 in
set_option maxHeartbeats 4000000 in
theorem in_l (l : List Int) (p : Option Addr) (n c : Nat) (x : Int) (hn : n ≤ 9223372036854775807)  (w : World) (hr : Reads w p n c 1 (fl intL l)) : Calls Tryd.prog 15 #[.slice p n c, .int .i64 x] w fun e w' => e = .returned (.bool (decide (x ∈ l))) ∧ S w' [Old w no] := by
  have H0 := S.old w
  have hnl := hr.lenL intE
  refine enter 17 Tryd.func15 rfl rfl rfl ?_
  refine g_weak [(0, .slice p n c), (1, .int .i64 x)] ⟨rfl, rfl, trivial⟩ ?_
  refine g_seq ?_
  refine g_region ?_
  refine l_of (s_val (v := .bool false) (wt0 rfl) rfl rfl (x_assign rfl rfl) ?_)
  refine g_nil ?_
  refine g_then ?_
  refine g_seq ?_
  refine g_seq ?_
  refine g_region ?_
  refine l_of (s_val (v := .slice p n c) (wt0 rfl) rfl rfl (x_move rfl rfl) ?_)
  refine l_of (s_val (v := .int .i64 ((n : Int))) (wt0 rfl) rfl rfl (x_lenl rfl rfl Tryd.underlying35) ?_)
  refine l_of (s_val (v := .int .i64 0) (wt0 rfl) rfl rfl (x_move rfl rfl) ?_)
  refine g_nil ?_
  refine g_then ?_
  refine g_block ?_
  refine g_loop (ι := Nat) (fun i => [(1, .int .i64 x), (7, .slice p n c), (8, .int .i64 ((n : Int))), (9, .int .i64 ((i : Int)))]) (fun i wx => (i ≤ n) ∧ (∀ y ∈ l.take i, ¬ y = x) ∧ S wx [Old w no]) (fun i => n - i) (0) ⟨rfl, rfl, rfl, rfl, trivial⟩ ⟨Nat.zero_le _, (fun y hy => by simp at hy), H0⟩ ?_
  rintro i wq1 ⟨hi, hno, H2⟩
  replace H2 : S wq1 [Old w no] := H2
  refine g_weak [(1, .int .i64 x), (7, .slice p n c), (8, .int .i64 ((n : Int))), (9, .int .i64 ((i : Int)))] ⟨rfl, rfl, rfl, rfl, trivial⟩ ?_
  refine g_seq ?_
  refine g_region ?_
  refine l_of (s_val (v := .bool (decide (((i : Int) : Int) < (n : Int)))) (wt0 rfl) rfl rfl (x_bin rfl rfl rfl b_lss) ?_)
  refine g_nil ?_
  refine g_then ?_
  refine g_seq ?_
  by_cases hb3 : ((i : Int) : Int) < (n : Int)
  · skip
    refine g_cond_t rfl (decide_eq_true hb3) ?_
    refine g_skip ?_
    refine g_then ?_
    refine g_seq ?_
    refine g_block ?_
    refine g_seq ?_
    refine g_region ?_
    refine l_of (s_val (v := .pointer ((p).map fun q => q.add (i * 1))) (wt0 rfl) rfl rfl (x_idxR i (H2.exReads (k := 0) rfl hr (fun _ _ _ h => h)) rfl rfl rfl Tryd.underlying35 sz3 (by omega)) ?_)
    have hlq := (H2.exReads (k := 0) rfl hr (fun _ _ _ h => h)).lenL intE
    obtain ⟨x4, hx4⟩ := ex_at (l := l) (j := i) (by omega)
    clear hlq
    refine l_of (s_val (v := .int .i64 x4) (wt0 rfl) rfl rfl (x_loadR1 i (H2.exReads (k := 0) rfl hr (fun _ _ _ h => h)) (by omega) rfl rfl Tryd.underlying3 rfl (intE.flAt1 hx4 rfl)) ?_)
    refine l_of (s_val (v := .int .i64 x4) (wt0 rfl) rfl rfl (x_assign rfl rfl) ?_)
    refine g_nil ?_
    refine g_then ?_
    refine g_seq ?_
    refine g_region ?_
    refine l_of (s_val (v := .int .i64 x4) (wt0 rfl) rfl rfl (x_move rfl rfl) ?_)
    refine l_of (s_val (v := .int .i64 x) (wt0 rfl) rfl rfl (x_move rfl rfl) ?_)
    refine l_of (s_val (v := .bool (decide ((x4 : Int) = x))) (wt0 rfl) rfl rfl (x_bin rfl rfl rfl b_eql) ?_)
    refine g_nil ?_
    refine g_then ?_
    by_cases hb5 : (x4 : Int) = x
    · skip
      refine g_cond_t rfl (decide_eq_true hb5) ?_
      refine g_seq ?_
      refine g_region ?_
      refine l_of (s_val (v := .bool true) (wt0 rfl) rfl rfl (x_assign rfl rfl) ?_)
      refine g_nil ?_
      refine g_then ?_
      refine g_ret ?_
      refine g_in_ret ?_
      refine g_then_ret ?_
      refine g_then_ret ?_
      refine g_in_ret ?_
      refine g_then_ret ?_
      refine fin_ret [.tmp 4] [.bool true] rfl ⟨rfl, trivial⟩ ?_
      have hm : x ∈ l := by have h9 := at_mem hx4; have h8 := hb5; first | (rw [← h8]; exact h9) | (rw [h8]; exact h9)
      exact ⟨by rw [decide_eq_true hm]; rfl, H2.mask [true]⟩
    · skip
      refine g_cond_f rfl (decide_eq_false hb5) ?_
      refine g_skip ?_
      refine g_in ?_
      refine g_then ?_
      refine g_region ?_
      refine l_of (s_val (v := .int .i64 (((i + 1 : Nat) : Int))) (wt0 rfl) rfl rfl (x_bin rfl rfl rfl (b_add (by rw [w64 (by omega)]; omega))) ?_)
      refine l_of (s_val (v := .int .i64 (((i + 1 : Nat) : Int))) (wt0 rfl) rfl rfl (x_move rfl rfl) ?_)
      refine g_nil ?_
      refine g_then ?_
      refine g_round (i := (i)) ((i + 1)) ?_ ?_ ?_
      · exact ⟨rfl, rfl, rfl, rfl, trivial⟩
      · exact ⟨by omega, (no_takeP hno hx4 hb5), H2⟩
      · (try dsimp only); omega
  · skip
    refine g_cond_f rfl (decide_eq_false hb3) ?_
    refine g_exit ?_
    refine g_then_exit ?_
    refine g_then_exit ?_
    refine g_in_hit ?_
    refine g_then ?_
    refine g_seq ?_
    refine g_region ?_
    refine l_of (s_val (v := .bool false) (wt0 rfl) rfl rfl (x_assign rfl rfl) ?_)
    refine g_nil ?_
    refine g_then ?_
    refine g_ret ?_
    refine fin_ret [.tmp 4] [.bool false] rfl ⟨rfl, trivial⟩ ?_
    rw [List.take_of_length_le (by omega)] at hno
    have hm : ¬ x ∈ l := fun h => hno x h rfl
    exact ⟨by rw [decide_eq_false hm]; rfl, H2.mask [true]⟩
set_option maxRecDepth 20000 in
set_option maxHeartbeats 4000000 in
set_option maxRecDepth 20000 in
set_option maxHeartbeats 4000000 in
theorem in_r (l : List Int) (p : Option Addr) (n c : Nat) (x : Int) (hn : n ≤ 9223372036854775807)  (w : World) (hr : Reads w p n c 1 (fl intL l)) : Calls Tryd.prog 27 #[.slice p n c, .int .i64 x] w fun e w' => e = .returned (.bool (decide (x ∈ l))) ∧ S w' [Old w no] := by
  have H0 := S.old w
  have hnl := hr.lenL intE
  refine enter 17 Tryd.func27 rfl rfl rfl ?_
  refine g_weak [(0, .slice p n c), (1, .int .i64 x)] ⟨rfl, rfl, trivial⟩ ?_
  refine g_seq ?_
  refine g_region ?_
  refine l_of (s_val (v := .bool false) (wt0 rfl) rfl rfl (x_assign rfl rfl) ?_)
  refine g_nil ?_
  refine g_then ?_
  refine g_seq ?_
  refine g_seq ?_
  refine g_region ?_
  refine l_of (s_val (v := .slice p n c) (wt0 rfl) rfl rfl (x_move rfl rfl) ?_)
  refine l_of (s_val (v := .int .i64 ((n : Int))) (wt0 rfl) rfl rfl (x_lenl rfl rfl Tryd.underlying35) ?_)
  refine l_of (s_val (v := .int .i64 0) (wt0 rfl) rfl rfl (x_move rfl rfl) ?_)
  refine g_nil ?_
  refine g_then ?_
  refine g_block ?_
  refine g_loop (ι := Nat) (fun i => [(1, .int .i64 x), (7, .slice p n c), (8, .int .i64 ((n : Int))), (9, .int .i64 ((i : Int)))]) (fun i wx => (i ≤ n) ∧ (∀ y ∈ l.take i, ¬ y = x) ∧ S wx [Old w no]) (fun i => n - i) (0) ⟨rfl, rfl, rfl, rfl, trivial⟩ ⟨Nat.zero_le _, (fun y hy => by simp at hy), H0⟩ ?_
  rintro i wq1 ⟨hi, hno, H2⟩
  replace H2 : S wq1 [Old w no] := H2
  refine g_weak [(1, .int .i64 x), (7, .slice p n c), (8, .int .i64 ((n : Int))), (9, .int .i64 ((i : Int)))] ⟨rfl, rfl, rfl, rfl, trivial⟩ ?_
  refine g_seq ?_
  refine g_region ?_
  refine l_of (s_val (v := .bool (decide (((i : Int) : Int) < (n : Int)))) (wt0 rfl) rfl rfl (x_bin rfl rfl rfl b_lss) ?_)
  refine g_nil ?_
  refine g_then ?_
  refine g_seq ?_
  by_cases hb3 : ((i : Int) : Int) < (n : Int)
  · skip
    refine g_cond_t rfl (decide_eq_true hb3) ?_
    refine g_skip ?_
    refine g_then ?_
    refine g_seq ?_
    refine g_block ?_
    refine g_seq ?_
    refine g_region ?_
    refine l_of (s_val (v := .pointer ((p).map fun q => q.add (i * 1))) (wt0 rfl) rfl rfl (x_idxR i (H2.exReads (k := 0) rfl hr (fun _ _ _ h => h)) rfl rfl rfl Tryd.underlying35 sz3 (by omega)) ?_)
    have hlq := (H2.exReads (k := 0) rfl hr (fun _ _ _ h => h)).lenL intE
    obtain ⟨x4, hx4⟩ := ex_at (l := l) (j := i) (by omega)
    clear hlq
    refine l_of (s_val (v := .int .i64 x4) (wt0 rfl) rfl rfl (x_loadR1 i (H2.exReads (k := 0) rfl hr (fun _ _ _ h => h)) (by omega) rfl rfl Tryd.underlying3 rfl (intE.flAt1 hx4 rfl)) ?_)
    refine l_of (s_val (v := .int .i64 x4) (wt0 rfl) rfl rfl (x_assign rfl rfl) ?_)
    refine g_nil ?_
    refine g_then ?_
    refine g_seq ?_
    refine g_region ?_
    refine l_of (s_val (v := .int .i64 x4) (wt0 rfl) rfl rfl (x_move rfl rfl) ?_)
    refine l_of (s_val (v := .int .i64 x) (wt0 rfl) rfl rfl (x_move rfl rfl) ?_)
    refine l_of (s_val (v := .bool (decide ((x4 : Int) = x))) (wt0 rfl) rfl rfl (x_bin rfl rfl rfl b_eql) ?_)
    refine g_nil ?_
    refine g_then ?_
    by_cases hb5 : (x4 : Int) = x
    · skip
      refine g_cond_t rfl (decide_eq_true hb5) ?_
      refine g_seq ?_
      refine g_region ?_
      refine l_of (s_val (v := .bool true) (wt0 rfl) rfl rfl (x_assign rfl rfl) ?_)
      refine g_nil ?_
      refine g_then ?_
      refine g_ret ?_
      refine g_in_ret ?_
      refine g_then_ret ?_
      refine g_then_ret ?_
      refine g_in_ret ?_
      refine g_then_ret ?_
      refine fin_ret [.tmp 4] [.bool true] rfl ⟨rfl, trivial⟩ ?_
      have hm : x ∈ l := by have h9 := at_mem hx4; have h8 := hb5; first | (rw [← h8]; exact h9) | (rw [h8]; exact h9)
      exact ⟨by rw [decide_eq_true hm]; rfl, H2.mask [true]⟩
    · skip
      refine g_cond_f rfl (decide_eq_false hb5) ?_
      refine g_skip ?_
      refine g_in ?_
      refine g_then ?_
      refine g_region ?_
      refine l_of (s_val (v := .int .i64 (((i + 1 : Nat) : Int))) (wt0 rfl) rfl rfl (x_bin rfl rfl rfl (b_add (by rw [w64 (by omega)]; omega))) ?_)
      refine l_of (s_val (v := .int .i64 (((i + 1 : Nat) : Int))) (wt0 rfl) rfl rfl (x_move rfl rfl) ?_)
      refine g_nil ?_
      refine g_then ?_
      refine g_round (i := (i)) ((i + 1)) ?_ ?_ ?_
      · exact ⟨rfl, rfl, rfl, rfl, trivial⟩
      · exact ⟨by omega, (no_takeP hno hx4 hb5), H2⟩
      · (try dsimp only); omega
  · skip
    refine g_cond_f rfl (decide_eq_false hb3) ?_
    refine g_exit ?_
    refine g_then_exit ?_
    refine g_then_exit ?_
    refine g_in_hit ?_
    refine g_then ?_
    refine g_seq ?_
    refine g_region ?_
    refine l_of (s_val (v := .bool false) (wt0 rfl) rfl rfl (x_assign rfl rfl) ?_)
    refine g_nil ?_
    refine g_then ?_
    refine g_ret ?_
    refine fin_ret [.tmp 4] [.bool false] rfl ⟨rfl, trivial⟩ ?_
    rw [List.take_of_length_le (by omega)] at hno
    have hm : ¬ x ∈ l := fun h => hno x h rfl
    exact ⟨by rw [decide_eq_false hm]; rfl, H2.mask [true]⟩
set_option maxRecDepth 20000 in
set_option maxHeartbeats 4000000 in
set_option maxRecDepth 20000 in
set_option maxHeartbeats 4000000 in
theorem same_i (l : List Int) (hl : l.length ≤ 9223372036854775807) (p : Option Addr) (n c : Nat) (q : Option Addr) (m d : Nat)  (w : World) (hr : Reads w p n c 1 (fl intL l)) (hq : Reads w q m d 1 (fl intL l)) : Calls Tryd.prog 20 #[.slice p n c, .slice q m d] w fun e w' => e = .returned (.bool true) ∧ S w' [Old w no] := by
  have H0 := S.old w
  have hnl := hr.lenL intE
  have hml := hq.lenL intE
  refine enter 26 Tryd.func20 rfl rfl rfl ?_
  refine g_weak [(0, .slice p n c), (1, .slice q m d)] ⟨rfl, rfl, trivial⟩ ?_
  refine g_seq ?_
  refine g_region ?_
  refine l_of (s_val (v := .bool false) (wt0 rfl) rfl rfl (x_assign rfl rfl) ?_)
  refine g_nil ?_
  refine g_then ?_
  refine g_seq ?_
  refine g_seq ?_
  refine g_region ?_
  refine l_of (s_val (v := .slice p n c) (wt0 rfl) rfl rfl (x_move rfl rfl) ?_)
  refine l_of (s_val (v := .int .i64 ((n : Int))) (wt0 rfl) rfl rfl (x_lenl rfl rfl Tryd.underlying35) ?_)
  refine l_of (s_val (v := .slice q m d) (wt0 rfl) rfl rfl (x_move rfl rfl) ?_)
  refine l_of (s_val (v := .int .i64 ((m : Int))) (wt0 rfl) rfl rfl (x_lenl rfl rfl Tryd.underlying35) ?_)
  refine l_of (s_val (v := .bool (!decide (((n : Int) : Int) = (m : Int)))) (wt0 rfl) rfl rfl (x_bin rfl rfl rfl b_neq) ?_)
  refine g_nil ?_
  refine g_then ?_
  by_cases hb1 : ((n : Int) : Int) = (m : Int)
  · skip
    refine g_cond_f rfl (nf hb1) ?_
    refine g_skip ?_
    refine g_then ?_
    refine g_seq ?_
    refine g_seq ?_
    refine g_region ?_
    refine l_of (s_val (v := .slice p n c) (wt0 rfl) rfl rfl (x_move rfl rfl) ?_)
    refine l_of (s_val (v := .int .i64 ((n : Int))) (wt0 rfl) rfl rfl (x_lenl rfl rfl Tryd.underlying35) ?_)
    refine l_of (s_val (v := .int .i64 0) (wt0 rfl) rfl rfl (x_move rfl rfl) ?_)
    refine g_nil ?_
    refine g_then ?_
    refine g_block ?_
    refine g_loop (ι := Nat) (fun k => [(0, .slice p n c), (1, .slice q m d), (12, .int .i64 ((n : Int))), (13, .int .i64 ((k : Int)))]) (fun k wx => (k ≤ n) ∧ S wx [Old w no]) (fun k => n - k) (0) ⟨rfl, rfl, rfl, rfl, trivial⟩ ⟨Nat.zero_le _, H0⟩ ?_
    rintro k wq2 ⟨hk, H3⟩
    replace H3 : S wq2 [Old w no] := H3
    refine g_weak [(0, .slice p n c), (1, .slice q m d), (12, .int .i64 ((n : Int))), (13, .int .i64 ((k : Int)))] ⟨rfl, rfl, rfl, rfl, trivial⟩ ?_
    refine g_seq ?_
    refine g_region ?_
    refine l_of (s_val (v := .bool (decide (((k : Int) : Int) < (n : Int)))) (wt0 rfl) rfl rfl (x_bin rfl rfl rfl b_lss) ?_)
    refine g_nil ?_
    refine g_then ?_
    refine g_seq ?_
    by_cases hb4 : ((k : Int) : Int) < (n : Int)
    · skip
      refine g_cond_t rfl (decide_eq_true hb4) ?_
      refine g_skip ?_
      refine g_then ?_
      refine g_seq ?_
      refine g_block ?_
      refine g_seq ?_
      refine g_region ?_
      refine l_of (s_val (v := .int .i64 ((k : Int))) (wt0 rfl) rfl rfl (x_move rfl rfl) ?_)
      refine l_of (s_val (v := .int .i64 ((k : Int))) (wt0 rfl) rfl rfl (x_assign rfl rfl) ?_)
      refine g_nil ?_
      refine g_then ?_
      refine g_seq ?_
      refine g_quiet (by kernel_rfl) (by kernel_rfl) H3 ?_
      refine q_val (v := .slice p n c) (wt0 rfl) rfl rfl (fun wx H => x_move rfl rfl) ?_
      refine q_val (v := .int .i64 ((k : Int))) (wt0 rfl) rfl rfl (fun wx H => x_move rfl rfl) ?_
      refine q_val (v := .pointer ((p).map fun q => q.add (k * 1))) (wt0 rfl) rfl rfl (fun wx H => x_idxP k ((H3.exReads (k := 0) rfl hr (fun _ _ _ h => h)).some (by omega)) rfl rfl rfl Tryd.underlying35 sz3 (by omega)) ?_
      have hlq := (H3.exReads (k := 0) rfl hr (fun _ _ _ h => h)).lenL intE
      obtain ⟨x5, hx5⟩ := ex_at (l := l) (j := k) (by omega)
      clear hlq
      refine q_val (v := .int .i64 x5) (wt0 rfl) rfl rfl (fun wx H => x_loadR1 k (H.exReads (k := 0) rfl hr (fun _ _ _ h => h)) (by omega) rfl rfl Tryd.underlying3 rfl (intE.flAt1 hx5 rfl)) ?_
      refine q_val (v := .slice q m d) (wt0 rfl) rfl rfl (fun wx H => x_move rfl rfl) ?_
      refine q_val (v := .int .i64 ((k : Int))) (wt0 rfl) rfl rfl (fun wx H => x_move rfl rfl) ?_
      refine q_val (v := .pointer ((q).map fun q => q.add (k * 1))) (wt0 rfl) rfl rfl (fun wx H => x_idxP k ((H3.exReads (k := 0) rfl hq (fun _ _ _ h => h)).some (by omega)) rfl rfl rfl Tryd.underlying35 sz3 (by omega)) ?_
      refine q_val (v := .int .i64 x5) (wt0 rfl) rfl rfl (fun wx H => x_loadR1 k (H.exReads (k := 0) rfl hq (fun _ _ _ h => h)) (by omega) rfl rfl Tryd.underlying3 rfl (intE.flAt1 hx5 rfl)) ?_
      refine q_val (v := .bool (!decide ((x5 : Int) = x5))) (wt0 rfl) rfl rfl (fun wx H => x_bin rfl rfl rfl b_neq) ?_
      refine q_nil (fun wq6 H7 => ?_)
      refine g_then ?_
      refine g_cond_f rfl (nf rfl) ?_
      refine g_skip ?_
      refine g_in ?_
      refine g_then ?_
      refine g_weak [(0, .slice p n c), (1, .slice q m d), (12, .int .i64 ((n : Int))), (13, .int .i64 ((k : Int)))] ⟨rfl, rfl, rfl, rfl, trivial⟩ ?_
      refine g_region ?_
      refine l_of (s_val (v := .int .i64 (((k + 1 : Nat) : Int))) (wt0 rfl) rfl rfl (x_bin rfl rfl rfl (b_add (by rw [w64 (by omega)]; omega))) ?_)
      refine l_of (s_val (v := .int .i64 (((k + 1 : Nat) : Int))) (wt0 rfl) rfl rfl (x_move rfl rfl) ?_)
      refine g_nil ?_
      refine g_then ?_
      refine g_round (i := (k)) ((k + 1)) ?_ ?_ ?_
      · exact ⟨rfl, rfl, rfl, rfl, trivial⟩
      · exact ⟨by omega, H7⟩
      · (try dsimp only); omega
    · skip
      refine g_cond_f rfl (decide_eq_false hb4) ?_
      refine g_exit ?_
      refine g_then_exit ?_
      refine g_then_exit ?_
      refine g_in_hit ?_
      refine g_then ?_
      refine g_seq ?_
      refine g_region ?_
      refine l_of (s_val (v := .bool true) (wt0 rfl) rfl rfl (x_assign rfl rfl) ?_)
      refine g_nil ?_
      refine g_then ?_
      refine g_ret ?_
      refine fin_ret [.tmp 4] [.bool true] rfl ⟨rfl, trivial⟩ ?_
      exact ⟨rfl, H3.mask [true]⟩
  · skip
    refine g_cond_t rfl (nt hb1) ?_
    refine g_seq ?_
    refine g_region ?_
    refine l_of (s_val (v := .bool false) (wt0 rfl) rfl rfl (x_assign rfl rfl) ?_)
    refine g_nil ?_
    refine g_then ?_
    refine g_ret ?_
    refine g_then_ret ?_
    refine fin_ret [.tmp 4] [.bool false] rfl ⟨rfl, trivial⟩ ?_
    omega
set_option maxRecDepth 20000 in
set_option maxHeartbeats 4000000 in
set_option maxRecDepth 20000 in
set_option maxHeartbeats 4000000 in
theorem clone_i_s (l : List Int) (a : Addr) (c : Nat) (hm : l.length ≤ 1099511627776)  (w : World) (hr : Reads w (some a) l.length c 1 (fl intL l)) : Calls Tryd.prog 38 #[.slice (some a) l.length c] w fun e w' => ∃ p' c', e = .returned (.slice p' l.length c') ∧ S w' ([Rw 3 1 p' l.length c' (fl intL l)] ++ [Old w no]) := by
  have H0 := S.old w
  refine enter 8 Tryd.func38 rfl rfl rfl ?_
  refine g_weak [(0, .slice (some a) l.length c)] ⟨rfl, trivial⟩ ?_
  refine g_seq ?_
  refine g_region ?_
  refine l_of (s_val (v := .slice none 0 0) (wt0 rfl) rfl rfl (x_assign rfl rfl) ?_)
  refine g_nil ?_
  refine g_then ?_
  refine g_seq ?_
  refine g_seq ?_
  refine g_region ?_
  refine l_of (s_val (v := .slice (some a) l.length c) (wt0 rfl) rfl rfl (x_move rfl rfl) ?_)
  refine l_of (s_val (v := .bool false) (wt0 rfl) rfl rfl (x_bin rfl rfl rfl (b_eqN (r := false) Tryd.underlying35 rfl)) ?_)
  refine g_nil ?_
  refine g_then ?_
  refine g_cond_f rfl rfl ?_
  refine g_skip ?_
  refine g_then ?_
  refine g_seq ?_
  refine g_region ?_
  refine l_of (s_buildSlice0 H0 (wt0 rfl) rfl rfl rfl Tryd.underlying35 sz3 ?_)
  intro g1 wq2 H3
  replace H3 : S wq2 [Rw 3 1 (some ⟨g1, 0, none⟩) 0 0 (fl intL ([] : List Int)), Old w no] := S.obFl intE H3 (k := 0) rfl rfl (by decide) rfl
  refine l_of (s_val (v := .slice (some a) l.length c) (wt0 rfl) rfl rfl (x_move rfl rfl) ?_)
  have hln8a := (H3.rwReads (k := 0) rfl).lenL intE
  have hln8b := (H3.exReads (k := 1) rfl hr (fun _ _ _ h => h)).lenL intE
  have hln8 : l.length = 0 + l.length := by omega
  refine l_of (s_appLn (l := []) (l2 := l) intE H3 0 (wt0 rfl) rfl rfl rfl rfl rfl rfl Tryd.underlying35 inf3 rfl (by decide) (H3.exReads (k := 1) rfl hr (fun _ _ _ h => h)) (by omega) ?_)
  intro p4 c5 wq6 H7
  rw [List.nil_append] at H7 ⊢
  replace H7 : S wq6 [Rw 3 1 p4 l.length c5 (fl intL l), Old w no] := H7
  refine l_of (s_val (v := .slice p4 l.length c5) (wt0 rfl) rfl rfl (x_assign rfl rfl) ?_)
  refine g_nil ?_
  refine g_then ?_
  refine g_ret ?_
  refine fin_ret [.tmp 2] [.slice p4 l.length c5] rfl ⟨rfl, trivial⟩ ?_
  exact ⟨_, _, rfl, H7⟩
set_option maxRecDepth 20000 in
set_option maxHeartbeats 4000000 in
set_option maxRecDepth 20000 in
set_option maxHeartbeats 4000000 in
theorem clone_i_n (n c : Nat)  (w : World) : Calls Tryd.prog 38 #[.slice none n c] w fun e w' => ∃ p' c', e = .returned (.slice p' 0 c') ∧ S w' ([Rw 3 1 p' 0 c' (fl intL [])] ++ [Old w no]) := by
  have H0 := S.old w
  refine enter 8 Tryd.func38 rfl rfl rfl ?_
  refine g_weak [(0, .slice none n c)] ⟨rfl, trivial⟩ ?_
  refine g_seq ?_
  refine g_region ?_
  refine l_of (s_val (v := .slice none 0 0) (wt0 rfl) rfl rfl (x_assign rfl rfl) ?_)
  refine g_nil ?_
  refine g_then ?_
  refine g_seq ?_
  refine g_seq ?_
  refine g_region ?_
  refine l_of (s_val (v := .slice none n c) (wt0 rfl) rfl rfl (x_move rfl rfl) ?_)
  refine l_of (s_val (v := .bool true) (wt0 rfl) rfl rfl (x_bin rfl rfl rfl (b_eqN (r := true) Tryd.underlying35 rfl)) ?_)
  refine g_nil ?_
  refine g_then ?_
  refine g_cond_t rfl rfl ?_
  refine g_seq ?_
  refine g_region ?_
  refine l_of (s_val (v := .slice none 0 0) (wt0 rfl) rfl rfl (x_assign rfl rfl) ?_)
  refine g_nil ?_
  refine g_then ?_
  refine g_ret ?_
  refine g_then_ret ?_
  refine fin_ret [.tmp 2] [.slice none 0 0] rfl ⟨rfl, trivial⟩ ?_
  exact ⟨none, 0, rfl, H0.nilFl 3 1 intL⟩
theorem clone_i (l : List Int) (p : Option Addr) (n c : Nat) (hm : l.length ≤ 1099511627776) (w : World) (hr : Reads w p n c 1 (fl intL l)) : Calls Tryd.prog 38 #[.slice p n c] w fun e w' => ∃ p' c', e = .returned (.slice p' l.length c') ∧ S w' ([Rw 3 1 p' l.length c' (fl intL l)] ++ [Old w no]) := by
  have hn := hr.lenL intE
  subst hn
  cases p with
  | some a => exact clone_i_s l a c hm w hr
  | none =>
    have h0 : l.length = 0 := by
      refine Decidable.byContradiction fun hn => ?_
      obtain ⟨a, ha, _⟩ := hr.2.2 (by omega)
      cases ha
    obtain rfl : l = [] := List.length_eq_zero_iff.1 h0
    exact clone_i_n 0 c w
set_option maxRecDepth 20000 in
set_option maxHeartbeats 4000000 in
set_option maxRecDepth 20000 in
set_option maxHeartbeats 4000000 in
theorem old_h (s : ByteArray) (hs : s.size ≤ 1048576) (w : World) : Calls Tryd.prog 31 #[.string s] w fun e w' => e = .returned (.string (oldS s)) ∧ S w' [Old w no] := by
  have H0 := S.old w
  have hz4 : (⟨#[111, 108, 100, 58]⟩ : ByteArray).size = 4 := rfl
  refine enter 7 Tryd.func31 rfl rfl rfl ?_
  refine g_weak [(0, .string s)] ⟨rfl, trivial⟩ ?_
  refine g_seq ?_
  refine g_region ?_
  refine l_of (s_val (v := .string (⟨#[]⟩)) (wt0 rfl) rfl rfl (x_assign rfl rfl) ?_)
  refine g_nil ?_
  refine g_then ?_
  refine g_seq ?_
  refine g_region ?_
  refine l_of (s_val (v := .string s) (wt0 rfl) rfl rfl (x_move rfl rfl) ?_)
  have hsz1 : ((⟨#[111, 108, 100, 58]⟩ : ByteArray) ++ s).size = (⟨#[111, 108, 100, 58]⟩ : ByteArray).size + s.size := ByteArray.size_append
  refine l_of (s_val (v := .string ((⟨#[111, 108, 100, 58]⟩ : ByteArray) ++ s)) (wt0 rfl) rfl rfl (x_bin rfl rfl rfl (b_cat (by omega))) ?_)
  refine l_of (s_call (wt0 rfl) (x_call' rfl rfl cl40) (sum_h _ (by omega) _) ?_)
  rintro _ wq2 ⟨rfl, H3⟩
  replace H3 : S wq2 [Old w no] := H0.absorb (new := []) H3
  refine b_ret rfl rfl ?_
  have hss := sumS_size ((⟨#[111, 108, 100, 58]⟩ : ByteArray) ++ s)
  refine l_of (s_val (v := .string ((oldS s))) (wt0 rfl) rfl rfl (x_slices 0 20 rfl rfl Tryd.underlying9 (.inl ⟨rfl, rfl⟩) (.inr ⟨_, _, _, rfl, rfl, by omega⟩) (by omega)) ?_)
  refine l_of (s_val (v := .string ((oldS s))) (wt0 rfl) rfl rfl (x_assign rfl rfl) ?_)
  refine g_nil ?_
  refine g_then ?_
  refine g_ret ?_
  refine fin_ret [.tmp 2] [.string ((oldS s))] rfl ⟨rfl, trivial⟩ ?_
  exact ⟨rfl, H3.mask [true]⟩
set_option maxRecDepth 20000 in
set_option maxHeartbeats 4000000 in
set_option maxRecDepth 20000 in
set_option maxHeartbeats 4000000 in
theorem old_r (s : ByteArray) (hs : s.size ≤ 1048576) (w : World) : Calls Tryd.prog 44 #[.string s] w fun e w' => e = .returned (.string (oldS s)) ∧ S w' [Old w no] := by
  have H0 := S.old w
  have hz4 : (⟨#[111, 108, 100, 58]⟩ : ByteArray).size = 4 := rfl
  refine enter 7 Tryd.func44 rfl rfl rfl ?_
  refine g_weak [(0, .string s)] ⟨rfl, trivial⟩ ?_
  refine g_seq ?_
  refine g_region ?_
  refine l_of (s_val (v := .string (⟨#[]⟩)) (wt0 rfl) rfl rfl (x_assign rfl rfl) ?_)
  refine g_nil ?_
  refine g_then ?_
  refine g_seq ?_
  refine g_region ?_
  refine l_of (s_val (v := .string s) (wt0 rfl) rfl rfl (x_move rfl rfl) ?_)
  have hsz1 : ((⟨#[111, 108, 100, 58]⟩ : ByteArray) ++ s).size = (⟨#[111, 108, 100, 58]⟩ : ByteArray).size + s.size := ByteArray.size_append
  refine l_of (s_val (v := .string ((⟨#[111, 108, 100, 58]⟩ : ByteArray) ++ s)) (wt0 rfl) rfl rfl (x_bin rfl rfl rfl (b_cat (by omega))) ?_)
  refine l_of (s_call (wt0 rfl) (x_call' rfl rfl cl50) (sum_r _ (by omega) _) ?_)
  rintro _ wq2 ⟨rfl, H3⟩
  replace H3 : S wq2 [Old w no] := H0.absorb (new := []) H3
  refine b_ret rfl rfl ?_
  have hss := sumS_size ((⟨#[111, 108, 100, 58]⟩ : ByteArray) ++ s)
  refine l_of (s_val (v := .string ((oldS s))) (wt0 rfl) rfl rfl (x_slices 0 20 rfl rfl Tryd.underlying9 (.inl ⟨rfl, rfl⟩) (.inr ⟨_, _, _, rfl, rfl, by omega⟩) (by omega)) ?_)
  refine l_of (s_val (v := .string ((oldS s))) (wt0 rfl) rfl rfl (x_assign rfl rfl) ?_)
  refine g_nil ?_
  refine g_then ?_
  refine g_ret ?_
  refine fin_ret [.tmp 2] [.string ((oldS s))] rfl ⟨rfl, trivial⟩ ?_
  exact ⟨rfl, H3.mask [true]⟩
def slotsV (r : Int) : Int × Int := if r < 0 ∨ 1000000000 < r then (0, 7) else if r < 10000 then (2, 0) else if r < 20000 then (3, 0) else (min (4 + (r - 20000) / 20000) 50, 0)
set_option maxRecDepth 20000 in
set_option maxHeartbeats 4000000 in
set_option maxRecDepth 20000 in
set_option maxHeartbeats 4000000 in
theorem slots_s (r : Int)  (w : World) : Calls Tryd.prog 23 #[.int .i64 r] w fun e w' => e = .returned (.tuple #[.int .i64 (slotsV r).1, .int .i64 (slotsV r).2]) ∧ S w' [Old w no] := by
  have H0 := S.old w
  refine enter 22 Tryd.func23 rfl rfl rfl ?_
  refine g_weak [(0, .int .i64 r)] ⟨rfl, trivial⟩ ?_
  refine g_seq ?_
  refine g_region ?_
  refine l_of (s_val (v := .int .i64 0) (wt0 rfl) rfl rfl (x_assign rfl rfl) ?_)
  refine l_of (s_val (v := .int .i64 0) (wt0 rfl) rfl rfl (x_assign rfl rfl) ?_)
  refine g_nil ?_
  refine g_then ?_
  refine g_seq ?_
  refine g_block ?_
  refine g_seq ?_
  refine g_region ?_
  refine l_of (s_val (v := .int .i64 r) (wt0 rfl) rfl rfl (x_move rfl rfl) ?_)
  refine l_of (s_val (v := .bool (decide ((r : Int) < 0))) (wt0 rfl) rfl rfl (x_bin rfl rfl rfl b_lss) ?_)
  refine l_of (s_val (v := .bool (decide ((r : Int) < 0))) (wt0 rfl) rfl rfl (x_move rfl rfl) ?_)
  by_cases hb1 : (r : Int) < 0
  · skip
    refine l_of (s_not (wn1 rfl rfl rfl rfl (decide_eq_true hb1)) rfl rfl ?_)
    refine l_of (s_not (wn1 rfl rfl rfl rfl (decide_eq_true hb1)) rfl rfl ?_)
    refine l_of (s_val (v := .bool true) (wt0 rfl) rfl rfl (x_pick_t rfl rfl (decide_eq_true hb1) rfl) ?_)
    refine l_of (s_val (v := .bool true) (wt0 rfl) rfl rfl (x_assign rfl rfl) ?_)
    refine g_nil ?_
    refine g_then ?_
    refine g_cond_t rfl rfl ?_
    refine g_seq ?_
    refine g_region ?_
    refine l_of (s_val (v := .int .i64 0) (wt0 rfl) rfl rfl (x_assign rfl rfl) ?_)
    refine l_of (s_val (v := .int .i64 7) (wt0 rfl) rfl rfl (x_assign rfl rfl) ?_)
    refine g_nil ?_
    refine g_then ?_
    refine g_ret ?_
    refine g_in_ret ?_
    refine g_then_ret ?_
    refine fin_ret [.tmp 2, .tmp 3] [.int .i64 0, .int .i64 7] rfl ⟨rfl, rfl, trivial⟩ ?_
    have hv : slotsV r = (0, 7) := by
      unfold slotsV
      first | (rw [if_pos (by omega)]; done) | (rw [if_pos (by omega)]) | (rw [if_neg (by omega), if_pos (by omega)]) | (rw [if_neg (by omega), if_neg (by omega), if_pos (by omega)]) | (rw [if_neg (by omega), if_neg (by omega), if_neg (by omega)]; try rw [Int.min_comm])
    exact ⟨by rw [hv]; rfl, H0.mask [true]⟩
  · skip
    refine l_of (s_val (v := .int .i64 r) (wt1 rfl rfl rfl rfl (decide_eq_false hb1)) rfl rfl (x_move rfl rfl) ?_)
    refine l_of (s_val (v := .bool (decide ((1000000000 : Int) < r))) (wt1 rfl rfl rfl rfl (decide_eq_false hb1)) rfl rfl (x_bin rfl rfl rfl b_gtr) ?_)
    refine l_of (s_val (v := .bool (decide ((1000000000 : Int) < r))) (wt0 rfl) rfl rfl (x_pick_f rfl rfl (decide_eq_false hb1) rfl) ?_)
    refine l_of (s_val (v := .bool (decide ((1000000000 : Int) < r))) (wt0 rfl) rfl rfl (x_assign rfl rfl) ?_)
    refine g_nil ?_
    refine g_then ?_
    by_cases hb2 : (1000000000 : Int) < r
    · skip
      refine g_cond_t rfl (decide_eq_true hb2) ?_
      refine g_seq ?_
      refine g_region ?_
      refine l_of (s_val (v := .int .i64 0) (wt0 rfl) rfl rfl (x_assign rfl rfl) ?_)
      refine l_of (s_val (v := .int .i64 7) (wt0 rfl) rfl rfl (x_assign rfl rfl) ?_)
      refine g_nil ?_
      refine g_then ?_
      refine g_ret ?_
      refine g_in_ret ?_
      refine g_then_ret ?_
      refine fin_ret [.tmp 2, .tmp 3] [.int .i64 0, .int .i64 7] rfl ⟨rfl, rfl, trivial⟩ ?_
      have hv : slotsV r = (0, 7) := by
        unfold slotsV
        first | (rw [if_pos (by omega)]; done) | (rw [if_pos (by omega)]) | (rw [if_neg (by omega), if_pos (by omega)]) | (rw [if_neg (by omega), if_neg (by omega), if_pos (by omega)]) | (rw [if_neg (by omega), if_neg (by omega), if_neg (by omega)]; try rw [Int.min_comm])
      exact ⟨by rw [hv]; rfl, H0.mask [true]⟩
    · skip
      refine g_cond_f rfl (decide_eq_false hb2) ?_
      refine g_seq ?_
      refine g_region ?_
      refine l_of (s_val (v := .int .i64 r) (wt0 rfl) rfl rfl (x_move rfl rfl) ?_)
      refine l_of (s_val (v := .bool (decide ((r : Int) < 10000))) (wt0 rfl) rfl rfl (x_bin rfl rfl rfl b_lss) ?_)
      refine l_of (s_val (v := .bool (decide ((r : Int) < 10000))) (wt0 rfl) rfl rfl (x_assign rfl rfl) ?_)
      refine g_nil ?_
      refine g_then ?_
      by_cases hb3 : (r : Int) < 10000
      · skip
        refine g_cond_t rfl (decide_eq_true hb3) ?_
        refine g_seq ?_
        refine g_region ?_
        refine l_of (s_val (v := .int .i64 2) (wt0 rfl) rfl rfl (x_assign rfl rfl) ?_)
        refine l_of (s_val (v := .int .i64 0) (wt0 rfl) rfl rfl (x_assign rfl rfl) ?_)
        refine g_nil ?_
        refine g_then ?_
        refine g_ret ?_
        refine g_in_ret ?_
        refine g_then_ret ?_
        refine fin_ret [.tmp 2, .tmp 3] [.int .i64 2, .int .i64 0] rfl ⟨rfl, rfl, trivial⟩ ?_
        have hv : slotsV r = (2, 0) := by
          unfold slotsV
          first | (rw [if_pos (by omega)]; done) | (rw [if_pos (by omega)]) | (rw [if_neg (by omega), if_pos (by omega)]) | (rw [if_neg (by omega), if_neg (by omega), if_pos (by omega)]) | (rw [if_neg (by omega), if_neg (by omega), if_neg (by omega)]; try rw [Int.min_comm])
        exact ⟨by rw [hv]; rfl, H0.mask [true]⟩
      · skip
        refine g_cond_f rfl (decide_eq_false hb3) ?_
        refine g_seq ?_
        refine g_region ?_
        refine l_of (s_val (v := .int .i64 r) (wt0 rfl) rfl rfl (x_move rfl rfl) ?_)
        refine l_of (s_val (v := .bool (decide ((r : Int) < 20000))) (wt0 rfl) rfl rfl (x_bin rfl rfl rfl b_lss) ?_)
        refine l_of (s_val (v := .bool (decide ((r : Int) < 20000))) (wt0 rfl) rfl rfl (x_assign rfl rfl) ?_)
        refine g_nil ?_
        refine g_then ?_
        refine g_weak [(0, .int .i64 r), (14, .bool (decide ((r : Int) < 20000)))] ⟨rfl, rfl, trivial⟩ ?_
        by_cases hb4 : (r : Int) < 20000
        · skip
          refine g_cond_t rfl (decide_eq_true hb4) ?_
          refine g_seq ?_
          refine g_region ?_
          refine l_of (s_val (v := .int .i64 3) (wt0 rfl) rfl rfl (x_assign rfl rfl) ?_)
          refine l_of (s_val (v := .int .i64 0) (wt0 rfl) rfl rfl (x_assign rfl rfl) ?_)
          refine g_nil ?_
          refine g_then ?_
          refine g_ret ?_
          refine g_in_ret ?_
          refine g_then_ret ?_
          refine fin_ret [.tmp 2, .tmp 3] [.int .i64 3, .int .i64 0] rfl ⟨rfl, rfl, trivial⟩ ?_
          have hv : slotsV r = (3, 0) := by
            unfold slotsV
            first | (rw [if_pos (by omega)]; done) | (rw [if_pos (by omega)]) | (rw [if_neg (by omega), if_pos (by omega)]) | (rw [if_neg (by omega), if_neg (by omega), if_pos (by omega)]) | (rw [if_neg (by omega), if_neg (by omega), if_neg (by omega)]; try rw [Int.min_comm])
          exact ⟨by rw [hv]; rfl, H0.mask [true]⟩
        · skip
          refine g_cond_f rfl (decide_eq_false hb4) ?_
          refine g_skip ?_
          refine g_in ?_
          refine g_then ?_
          refine g_seq ?_
          refine g_region ?_
          refine l_of (s_val (v := .int .i64 r) (wt0 rfl) rfl rfl (x_move rfl rfl) ?_)
          refine l_of (s_val (v := .int .i64 (r - 20000)) (wt0 rfl) rfl rfl (x_bin rfl rfl rfl (b_sub (w64 (by omega)))) ?_)
          refine l_of (s_val (v := .int .i64 ((r - 20000) / 20000)) (wt0 rfl) rfl rfl (x_bin rfl rfl rfl (b_quo (by omega) (quo64 (by omega)))) ?_)
          refine l_of (s_val (v := .int .i64 (4 + ((r - 20000) / 20000))) (wt0 rfl) rfl rfl (x_bin rfl rfl rfl (b_add (w64 (by omega)))) ?_)
          refine l_of (s_val (v := .int .i64 (min (4 + ((r - 20000) / 20000)) 50)) (wt0 rfl) rfl rfl (x_min rfl rfl rfl) ?_)
          refine l_of (s_val (v := .int .i64 (min (4 + ((r - 20000) / 20000)) 50)) (wt0 rfl) rfl rfl (x_assign rfl rfl) ?_)
          refine l_of (s_val (v := .int .i64 0) (wt0 rfl) rfl rfl (x_assign rfl rfl) ?_)
          refine g_nil ?_
          refine g_then ?_
          refine g_ret ?_
          refine fin_ret [.tmp 2, .tmp 3] [.int .i64 (min (4 + ((r - 20000) / 20000)) 50), .int .i64 0] rfl ⟨rfl, rfl, trivial⟩ ?_
          have hv : slotsV r = (min (4 + ((r - 20000) / 20000)) 50, 0) := by
            unfold slotsV
            first | (rw [if_pos (by omega)]; done) | (rw [if_pos (by omega)]) | (rw [if_neg (by omega), if_pos (by omega)]) | (rw [if_neg (by omega), if_neg (by omega), if_pos (by omega)]) | (rw [if_neg (by omega), if_neg (by omega), if_neg (by omega)]; try rw [Int.min_comm])
          exact ⟨by rw [hv]; rfl, H0.mask [true]⟩
theorem slots_k (r a b : Int) (h : slotsV r = (a, b)) (w : World) : Calls Tryd.prog 23 #[.int .i64 r] w fun e w' => e = .returned (.tuple #[.int .i64 a, .int .i64 b]) ∧ S w' [Old w no] := by
  have h1 := slots_s r w
  rw [h] at h1; exact h1
set_option maxRecDepth 20000 in
set_option maxHeartbeats 4000000 in
set_option maxRecDepth 20000 in
set_option maxHeartbeats 4000000 in
theorem awake_s  (w : World) : Calls Tryd.prog 4 #[] w fun e w' => e = .returned (.bool true) ∧ S w' [Old w no] := by
  have H0 := S.old w
  refine enter 27 Tryd.func4 rfl rfl rfl ?_
  refine g_weak [] trivial ?_
  refine g_seq ?_
  refine g_region ?_
  refine l_of (s_val (v := .bool false) (wt0 rfl) rfl rfl (x_assign rfl rfl) ?_)
  refine g_nil ?_
  refine g_then ?_
  refine g_seq ?_
  refine g_region ?_
  refine l_of (s_call (wt0 rfl) (x_call' rfl rfl cl23) (slots_k 9999 2 0 (by decide) _) ?_)
  rintro _ wq1 ⟨rfl, H2⟩
  replace H2 : S wq1 [Old w no] := H0.absorb (new := []) H2
  refine b_ret rfl rfl ?_
  refine l_of (s_val (v := .tuple #[.int .i64 2, .int .i64 0]) (wt0 rfl) rfl rfl (x_move rfl rfl) ?_)
  refine l_of (s_val (v := .int .i64 2) (wt0 rfl) rfl rfl (x_extract rfl rfl rfl) ?_)
  refine l_of (s_val (v := .int .i64 0) (wt0 rfl) rfl rfl (x_extract rfl rfl rfl) ?_)
  refine l_of (s_val (v := .int .i64 2) (wt0 rfl) rfl rfl (x_assign rfl rfl) ?_)
  refine l_of (s_val (v := .int .i64 0) (wt0 rfl) rfl rfl (x_assign rfl rfl) ?_)
  refine g_nil ?_
  refine g_then ?_
  refine g_seq ?_
  refine g_region ?_
  refine l_of (s_call (wt0 rfl) (x_call' rfl rfl cl23) (slots_k 40000 5 0 (by decide) _) ?_)
  rintro _ wq3 ⟨rfl, H4⟩
  replace H4 : S wq3 [Old w no] := H2.absorb (new := []) H4
  refine b_ret rfl rfl ?_
  refine l_of (s_val (v := .tuple #[.int .i64 5, .int .i64 0]) (wt0 rfl) rfl rfl (x_move rfl rfl) ?_)
  refine l_of (s_val (v := .int .i64 5) (wt0 rfl) rfl rfl (x_extract rfl rfl rfl) ?_)
  refine l_of (s_val (v := .int .i64 0) (wt0 rfl) rfl rfl (x_extract rfl rfl rfl) ?_)
  refine l_of (s_val (v := .int .i64 5) (wt0 rfl) rfl rfl (x_assign rfl rfl) ?_)
  refine l_of (s_val (v := .int .i64 0) (wt0 rfl) rfl rfl (x_assign rfl rfl) ?_)
  refine g_nil ?_
  refine g_then ?_
  refine g_seq ?_
  refine g_region ?_
  refine l_of (s_val (v := .int .i64 0) (wt0 rfl) rfl rfl (x_move rfl rfl) ?_)
  refine l_of (s_val (v := .bool (decide ((0 : Int) = 0))) (wt0 rfl) rfl rfl (x_bin rfl rfl rfl b_eql) ?_)
  refine l_of (s_val (v := .bool (decide ((0 : Int) = 0))) (wt0 rfl) rfl rfl (x_move rfl rfl) ?_)
  refine l_of (s_val (v := .int .i64 0) (wt1 rfl rfl rfl rfl (decide_eq_true rfl)) rfl rfl (x_move rfl rfl) ?_)
  refine l_of (s_val (v := .bool (decide ((0 : Int) = 0))) (wt1 rfl rfl rfl rfl (decide_eq_true rfl)) rfl rfl (x_bin rfl rfl rfl b_eql) ?_)
  refine l_of (s_val (v := .bool (decide ((0 : Int) = 0))) (wt0 rfl) rfl rfl (x_pick_t rfl rfl (decide_eq_true rfl) rfl) ?_)
  refine l_of (s_val (v := .bool (decide ((0 : Int) = 0))) (wt0 rfl) rfl rfl (x_move rfl rfl) ?_)
  refine l_of (s_val (v := .int .i64 2) (wt1 rfl rfl rfl rfl (decide_eq_true rfl)) rfl rfl (x_move rfl rfl) ?_)
  refine l_of (s_val (v := .bool (decide ((2 : Int) = 2))) (wt1 rfl rfl rfl rfl (decide_eq_true rfl)) rfl rfl (x_bin rfl rfl rfl b_eql) ?_)
  refine l_of (s_val (v := .bool (decide ((2 : Int) = 2))) (wt0 rfl) rfl rfl (x_pick_t rfl rfl (decide_eq_true rfl) rfl) ?_)
  refine l_of (s_val (v := .bool (decide ((2 : Int) = 2))) (wt0 rfl) rfl rfl (x_move rfl rfl) ?_)
  refine l_of (s_val (v := .int .i64 5) (wt1 rfl rfl rfl rfl (decide_eq_true rfl)) rfl rfl (x_move rfl rfl) ?_)
  refine l_of (s_val (v := .bool (decide ((5 : Int) = 5))) (wt1 rfl rfl rfl rfl (decide_eq_true rfl)) rfl rfl (x_bin rfl rfl rfl b_eql) ?_)
  refine l_of (s_val (v := .bool (decide ((5 : Int) = 5))) (wt0 rfl) rfl rfl (x_pick_t rfl rfl (decide_eq_true rfl) rfl) ?_)
  refine l_of (s_val (v := .bool (decide ((5 : Int) = 5))) (wt0 rfl) rfl rfl (x_assign rfl rfl) ?_)
  refine g_nil ?_
  refine g_then ?_
  refine g_weak [(0, .bool (decide ((5 : Int) = 5)))] ⟨rfl, trivial⟩ ?_
  refine g_ret ?_
  refine fin_ret [.tmp 0] [.bool (decide ((5 : Int) = 5))] rfl ⟨rfl, trivial⟩ ?_
  exact ⟨rfl, H4.mask [true]⟩
set_option maxRecDepth 20000 in
set_option maxHeartbeats 4000000 in
set_option maxRecDepth 20000 in
set_option maxHeartbeats 4000000 in
theorem minF_s (l : List Int) (p : Option Addr) (n c0 : Nat) (hn : n ≤ 1000000) (hne : 0 < n) (gc : Nat) (fic cac : Array Value) (X : Item) (c : Int → Int → Int) (D : Int → Prop) (W : Wk c) (hc : FunC Tryd.prog gc fic cac X (fun p : Int × Int => [.int .i64 p.1, .int .i64 p.2]) (fun p => .int .i64 (c p.1 p.2)) (fun p => D p.1 ∧ D p.2)) (hD : ∀ x ∈ l, D x)  (w : World) (HS : S w [X]) (hap : Apart w X p n c0 1 (fl intL l)) : Calls Tryd.prog 34 #[.slice p n c0, .func (.func gc) fic cac] w fun e w' => ∃ (j : Nat) (x : Int), e = .returned (.int .i64 x) ∧ IsBest c l l.length j x ∧ S w' ([X] ++ [Old w (fps [X])]) := by
  have H00 := HS.beginI
  have H0 : S w ([X, Old w (fps [X])]) := H00
  have hnl := (hap _ H0).lenL intE
  refine enter 33 Tryd.func34 rfl rfl rfl ?_
  refine g_weak [(0, .slice p n c0), (1, .func (.func gc) fic cac)] ⟨rfl, rfl, trivial⟩ ?_
  refine g_seq ?_
  refine g_region ?_
  refine l_of (s_val (v := .int .i64 0) (wt0 rfl) rfl rfl (x_assign rfl rfl) ?_)
  refine g_nil ?_
  refine g_then ?_
  refine g_seq ?_
  refine g_seq ?_
  refine g_region ?_
  refine l_of (s_val (v := .slice p n c0) (wt0 rfl) rfl rfl (x_move rfl rfl) ?_)
  refine l_of (s_val (v := .int .i64 ((n : Int))) (wt0 rfl) rfl rfl (x_lenl rfl rfl Tryd.underlying35) ?_)
  refine l_of (s_val (v := .bool (decide (((n : Int) : Int) < 1))) (wt0 rfl) rfl rfl (x_bin rfl rfl rfl b_lss) ?_)
  refine g_nil ?_
  refine g_then ?_
  by_cases hb1 : ((n : Int) : Int) < 1
  · skip
    refine g_cond_t rfl (decide_eq_true hb1) ?_
    refine g_region ?_
    refine l_of (s_val (v := .iface 9 (.string (⟨#[115, 108, 105, 99, 101, 115, 46, 77, 105, 110, 70, 117, 110, 99, 58, 32, 101, 109, 112, 116, 121, 32, 108, 105, 115, 116]⟩))) (wt0 rfl) rfl rfl (x_makeInterface rfl rfl Tryd.underlying9 rfl) ?_)
    refine l_of (s_panic (wt0 rfl) (xp_panic rfl rfl) ?_)
    refine g_then_panic ?_
    refine fin_panic ?_
    omega
  · skip
    refine g_cond_f rfl (decide_eq_false hb1) ?_
    refine g_skip ?_
    refine g_then ?_
    refine g_seq ?_
    refine g_region ?_
    refine l_of (s_val (v := .slice p n c0) (wt0 rfl) rfl rfl (x_move rfl rfl) ?_)
    refine l_of (s_val (v := .pointer ((p).map fun q => q.add (0 * 1))) (wt0 rfl) rfl rfl (x_idxR 0 ((hap _ (H0.takes [0, 1] (by decide)))) rfl rfl rfl Tryd.underlying35 sz3 (by omega)) ?_)
    have hlq := ((hap _ (H0.takes [0, 1] (by decide)))).lenL intE
    obtain ⟨x2, hx2⟩ := ex_at (l := l) (j := 0) (by omega)
    clear hlq
    refine l_of (s_val (v := .int .i64 x2) (wt0 rfl) rfl rfl (x_loadR1 0 ((hap _ (H0.takes [0, 1] (by decide)))) (by omega) rfl rfl Tryd.underlying3 rfl (intE.flAt1 hx2 rfl)) ?_)
    refine l_of (s_val (v := .int .i64 x2) (wt0 rfl) rfl rfl (x_assign rfl rfl) ?_)
    refine g_nil ?_
    refine g_then ?_
    refine g_seq ?_
    refine g_seq ?_
    refine g_region ?_
    refine l_of (s_val (v := .int .i64 1) (wt0 rfl) rfl rfl (x_assign rfl rfl) ?_)
    refine g_nil ?_
    refine g_then ?_
    refine g_block ?_
    refine g_loop (ι := Nat × Int × Nat) (fun (i, m9, j9) => [(0, .slice p n c0), (1, .func (.func gc) fic cac), (5, .int .i64 m9), (6, .int .i64 ((i : Int)))]) (fun (i, m9, j9) wx => (1 ≤ i ∧ i ≤ l.length) ∧ (IsBest c l i j9 m9) ∧ (m9 ∈ l) ∧ S wx [X, Old w (fps [X])]) (fun (i, m9, j9) => l.length - i) (1, x2, 0) ⟨rfl, rfl, rfl, rfl, trivial⟩ ⟨⟨by omega, by omega⟩, (IsBest.first W hx2), (at_mem hx2), H0⟩ ?_
    rintro ⟨i, m9, j9⟩ wq3 ⟨hi, hB, hm9, H4⟩
    replace H4 : S wq3 [X, Old w (fps [X])] := H4
    refine g_weak [(0, .slice p n c0), (1, .func (.func gc) fic cac), (5, .int .i64 m9), (6, .int .i64 ((i : Int)))] ⟨rfl, rfl, rfl, rfl, trivial⟩ ?_
    refine g_seq ?_
    refine g_seq ?_
    refine g_region ?_
    refine l_of (s_val (v := .int .i64 ((i : Int))) (wt0 rfl) rfl rfl (x_move rfl rfl) ?_)
    refine l_of (s_val (v := .slice p n c0) (wt0 rfl) rfl rfl (x_move rfl rfl) ?_)
    refine l_of (s_val (v := .int .i64 ((n : Int))) (wt0 rfl) rfl rfl (x_lenl rfl rfl Tryd.underlying35) ?_)
    refine l_of (s_val (v := .bool (decide (((i : Int) : Int) < (n : Int)))) (wt0 rfl) rfl rfl (x_bin rfl rfl rfl b_lss) ?_)
    refine g_nil ?_
    refine g_then ?_
    by_cases hb5 : ((i : Int) : Int) < (n : Int)
    · skip
      refine g_cond_t rfl (decide_eq_true hb5) ?_
      refine g_skip ?_
      refine g_then ?_
      refine g_seq ?_
      refine g_block ?_
      refine g_seq ?_
      refine g_region ?_
      refine l_of (s_val (v := .func (.func gc) fic cac) (wt0 rfl) rfl rfl (x_move rfl rfl) ?_)
      refine l_of (s_val (v := .slice p n c0) (wt0 rfl) rfl rfl (x_move rfl rfl) ?_)
      refine l_of (s_val (v := .int .i64 ((i : Int))) (wt0 rfl) rfl rfl (x_move rfl rfl) ?_)
      refine l_of (s_val (v := .pointer ((p).map fun q => q.add (i * 1))) (wt0 rfl) rfl rfl (x_idxR i ((hap _ (H4.takes [0, 1] (by decide)))) rfl rfl rfl Tryd.underlying35 sz3 (by omega)) ?_)
      have hlq := ((hap _ (H4.takes [0, 1] (by decide)))).lenL intE
      obtain ⟨x6, hx6⟩ := ex_at (l := l) (j := i) (by omega)
      clear hlq
      refine l_of (s_val (v := .int .i64 x6) (wt0 rfl) rfl rfl (x_loadR1 i ((hap _ (H4.takes [0, 1] (by decide)))) (by omega) rfl rfl Tryd.underlying3 rfl (intE.flAt1 hx6 rfl)) ?_)
      refine l_of (s_val (v := .int .i64 m9) (wt0 rfl) rfl rfl (x_move rfl rfl) ?_)
      refine l_of (s_call (wt0 rfl) (x_call rfl rfl rfl hc.ok) (hc.does (x6, m9) (⟨hD x6 (at_mem hx6), hD m9 (hm9)⟩) _ (H4.takes [0] (by decide))) ?_)
      rintro _ wq7 ⟨rfl, H8⟩
      replace H8 : S wq7 [X, Old w (fps [X])] := H4.absorbI (new := [X]) [0] H8
      refine b_ret rfl rfl ?_
      refine l_of (s_val (v := .bool (decide (((c x6 m9) : Int) < 0))) (wt0 rfl) rfl rfl (x_bin rfl rfl rfl b_lss) ?_)
      refine g_nil ?_
      refine g_then ?_
      by_cases hb9 : ((c x6 m9) : Int) < 0
      · skip
        refine g_cond_t rfl (decide_eq_true hb9) ?_
        refine g_region ?_
        refine l_of (s_val (v := .slice p n c0) (wt0 rfl) rfl rfl (x_move rfl rfl) ?_)
        refine l_of (s_val (v := .int .i64 ((i : Int))) (wt0 rfl) rfl rfl (x_move rfl rfl) ?_)
        refine l_of (s_val (v := .pointer ((p).map fun q => q.add (i * 1))) (wt0 rfl) rfl rfl (x_idxR i ((hap _ (H8.takes [0, 1] (by decide)))) rfl rfl rfl Tryd.underlying35 sz3 (by omega)) ?_)
        refine l_of (s_val (v := .int .i64 x6) (wt0 rfl) rfl rfl (x_loadR1 i ((hap _ (H8.takes [0, 1] (by decide)))) (by omega) rfl rfl Tryd.underlying3 rfl (intE.flAt1 hx6 rfl)) ?_)
        refine l_of (s_val (v := .int .i64 x6) (wt0 rfl) rfl rfl (x_assign rfl rfl) ?_)
        refine g_nil ?_
        refine g_in ?_
        refine g_then ?_
        refine g_weak [(0, .slice p n c0), (1, .func (.func gc) fic cac), (5, .int .i64 x6), (6, .int .i64 ((i : Int)))] ⟨rfl, rfl, rfl, rfl, trivial⟩ ?_
        refine g_region ?_
        refine l_of (s_val (v := .int .i64 ((i : Int))) (wt0 rfl) rfl rfl (x_move rfl rfl) ?_)
        refine l_of (s_val (v := .int .i64 (((i + 1 : Nat) : Int))) (wt0 rfl) rfl rfl (x_bin rfl rfl rfl (b_add (by rw [w64 (by omega)]; omega))) ?_)
        refine l_of (s_val (v := .int .i64 (((i + 1 : Nat) : Int))) (wt0 rfl) rfl rfl (x_assign rfl rfl) ?_)
        refine g_nil ?_
        refine g_then ?_
        refine g_round (i := (i, m9, j9)) ((i + 1), x6, i) ?_ ?_ ?_
        · exact ⟨rfl, rfl, rfl, rfl, trivial⟩
        · exact ⟨(by omega), (hB.take W hx6 hb9), (at_mem hx6), H8⟩
        · (try dsimp only); omega
      · skip
        refine g_cond_f rfl (decide_eq_false hb9) ?_
        refine g_skip ?_
        refine g_in ?_
        refine g_then ?_
        refine g_weak [(0, .slice p n c0), (1, .func (.func gc) fic cac), (5, .int .i64 m9), (6, .int .i64 ((i : Int)))] ⟨rfl, rfl, rfl, rfl, trivial⟩ ?_
        refine g_region ?_
        refine l_of (s_val (v := .int .i64 ((i : Int))) (wt0 rfl) rfl rfl (x_move rfl rfl) ?_)
        refine l_of (s_val (v := .int .i64 (((i + 1 : Nat) : Int))) (wt0 rfl) rfl rfl (x_bin rfl rfl rfl (b_add (by rw [w64 (by omega)]; omega))) ?_)
        refine l_of (s_val (v := .int .i64 (((i + 1 : Nat) : Int))) (wt0 rfl) rfl rfl (x_assign rfl rfl) ?_)
        refine g_nil ?_
        refine g_then ?_
        refine g_round (i := (i, m9, j9)) ((i + 1), m9, j9) ?_ ?_ ?_
        · exact ⟨rfl, rfl, rfl, rfl, trivial⟩
        · exact ⟨(by omega), (hB.keep hx6 hb9), hm9, H8⟩
        · (try dsimp only); omega
    · skip
      refine g_cond_f rfl (decide_eq_false hb5) ?_
      refine g_exit ?_
      refine g_then_exit ?_
      refine g_then_exit ?_
      refine g_in_hit ?_
      refine g_then ?_
      refine g_seq ?_
      refine g_region ?_
      refine l_of (s_val (v := .int .i64 m9) (wt0 rfl) rfl rfl (x_move rfl rfl) ?_)
      refine l_of (s_val (v := .int .i64 m9) (wt0 rfl) rfl rfl (x_assign rfl rfl) ?_)
      refine g_nil ?_
      refine g_then ?_
      refine g_ret ?_
      refine fin_ret [.tmp 4] [.int .i64 m9] rfl ⟨rfl, trivial⟩ ?_
      have hil : i = l.length := by omega
      rw [hil] at hB
      exact ⟨j9, m9, rfl, hB, H4.takes [0, 1] (by decide)⟩
end Go.Proofs.YthfglkkjkpdkpaaDoor
