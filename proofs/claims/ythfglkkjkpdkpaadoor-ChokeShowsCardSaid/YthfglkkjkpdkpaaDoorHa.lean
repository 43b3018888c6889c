import Derived.Test.YthfglkkjkpdkpaaDoorH0
set_option linter.unusedSimpArgs false
set_option linter.unusedVariables false
namespace Go.Proofs.YthfglkkjkpdkpaaDoor
open Go.RowKit

theorem cl59 : callable Tryd.prog 59 = true := by kernel_rfl
theorem cl60 : callable Tryd.prog 60 = true := by kernel_rfl
theorem cl61 : callable Tryd.prog 61 = true := by kernel_rfl
theorem inf5 : infO Tryd.prog 5 = some (some (.int .u8 0), 1, 1) := by kernel_rfl
theorem sz5 : szO Tryd.prog 5 = some 1 := by kernel_rfl
/-- A number in eight bytes, from the back: i are laid. -/
def eR (h i : Nat) : List Nat := (List.range 8).map (fun p => if 8 - i ≤ p then h / 256 ^ (7 - p) % 256 else 0)
theorem eR_len (h i : Nat) : (eR h i).length = 8 := by unfold eR; simp
theorem eR_zero (h : Nat) : eR h 0 = List.replicate 8 0 := by
  unfold eR
  apply List.ext_getElem?
  intro p
  rw [List.getElem?_map, List.getElem?_replicate]
  by_cases hp : p < 8
  · rw [List.getElem?_range hp, if_pos hp, Option.map_some, if_neg (by omega)]
  · rw [if_neg hp, List.getElem?_eq_none (by simp; omega)]; rfl
theorem eR_at {h i p : Nat} (hp : p < 8) : (eR h i)[p]? = some (if 8 - i ≤ p then h / 256 ^ (7 - p) % 256 else 0) := by
  unfold eR; rw [List.getElem?_map, List.getElem?_range hp]; rfl
theorem eR_next {h i : Nat} (hi : i < 8) : (eR h i).set (7 - i) (h / 256 ^ i % 256) = eR h (i + 1) := by
  apply List.ext_getElem?
  intro p
  rw [List.getElem?_set, eR_len]
  by_cases hp : p < 8
  · rw [eR_at hp, eR_at hp]
    by_cases e : 7 - i = p
    · rw [if_pos e, if_pos (by omega), if_pos (by omega), show 7 - p = i from by omega]
    · rw [if_neg e]
      by_cases e2 : 8 - i ≤ p
      · rw [if_pos e2, if_pos (by omega)]
      · rw [if_neg e2, if_neg (by omega)]
  · rw [if_neg (by omega), List.getElem?_eq_none (by rw [eR_len]; omega), List.getElem?_eq_none (by rw [eR_len]; omega)]
theorem eR_all (h : Nat) : eR h 8 = eightT h := by
  unfold eR eightT eightTo
  refine List.map_congr_left fun p hp => ?_
  rw [List.mem_range] at hp
  rw [if_pos (by omega)]
  have : (256 : Nat) ^ (7 - p) = 2 ^ (56 - 8 * p) := by
    rw [show (256 : Nat) = 2 ^ 8 from rfl, ← Nat.pow_mul]; congr 1; omega
  rw [this]
theorem eR_lt (h i : Nat) : ∀ x ∈ eR h i, x < 256 := fun x hx => by
  unfold eR at hx
  obtain ⟨p, _, rfl⟩ := List.mem_map.1 hx
  show (if _ then _ else _) < 256
  split
  · exact Nat.mod_lt _ (by omega)
  · omega
theorem hc_nb {w : World} {L : List Item} {g k : Nat} {e : TypeId} {fr : Nat × Nat} {b : List Nat} (H : S w L) (hk : L[k]? = some (Ob g (.cells (nbV b) e fr))) (hb : ∀ x ∈ b, x < 256) : ∀ j u, (bytesV (b.map UInt8.ofNat))[j]? = some u → w.cell? ((⟨g, 0, none⟩ : Addr).add j) = some u :=
  hc_ob H hk (by unfold nbV; rw [← nbL_bytes hb])
set_option maxRecDepth 20000 in
set_option maxHeartbeats 4000000 in
theorem eight_r (h : Nat) (hh : h < 18446744073709551616) (w : World) : Calls Tryd.prog 59 #[.int .u64 ((h : Int))] w fun e w' => e = .returned (.string (nbS (eightT h))) ∧ S w' [Old w no] := by
  have H0 := S.old w
  refine enter 21 Tryd.func59 rfl rfl rfl ?_
  refine g_weak [(0, .int .u64 ((h : Int)))] ⟨rfl, trivial⟩ ?_
  refine g_seq ?_
  refine g_region ?_
  refine l_of (s_val (v := .string (⟨#[]⟩)) (wt0 rfl) rfl rfl (x_assign rfl rfl) ?_)
  refine g_nil ?_
  refine g_then ?_
  refine g_seq ?_
  refine g_region ?_
  refine l_of (s_make1 8 H0 (wt0 rfl) rfl rfl rfl rfl rfl Tryd.underlying90 inf5 rfl (by omega) ?_)
  intro g1 wq2 H3
  rw [nbV_zero, ← eR_zero h] at H3
  replace H3 : S wq2 [Ob g1 (.cells (nbV (eR h 0)) 5 (0, 0)), Old w no] := H3
  refine l_of (s_val (v := .slice (some ⟨g1, 0, none⟩) (8) (8)) (wt0 rfl) rfl rfl (x_assign rfl rfl) ?_)
  refine g_nil ?_
  refine g_then ?_
  refine g_seq ?_
  refine g_seq ?_
  refine g_region ?_
  refine l_of (s_val (v := .int .i64 0) (wt0 rfl) rfl rfl (x_move rfl rfl) ?_)
  refine g_nil ?_
  refine g_then ?_
  refine g_block ?_
  refine g_loop (ι := Nat × Nat) (fun (i, x) => [(0, .int .u64 ((x : Int))), (3, .slice (some ⟨g1, 0, none⟩) (8) (8)), (6, .int .i64 ((i : Int)))]) (fun (i, x) wx => (i ≤ 8) ∧ (x = h / 256 ^ i) ∧ S wx [Ob g1 (.cells (nbV (eR h i)) 5 (0, 0)), Old w no]) (fun (i, x) => 8 - i) (0, h) ⟨rfl, rfl, rfl, trivial⟩ ⟨Nat.zero_le _, (by rw [Nat.pow_zero, Nat.div_one]), H3⟩ ?_
  rintro ⟨i, x⟩ wq4 ⟨hi, hx, H5⟩
  replace H5 : S wq4 [Ob g1 (.cells (nbV (eR h i)) 5 (0, 0)), Old w no] := H5
  refine g_weak [(0, .int .u64 ((x : Int))), (3, .slice (some ⟨g1, 0, none⟩) (8) (8)), (6, .int .i64 ((i : Int)))] ⟨rfl, rfl, rfl, trivial⟩ ?_
  have hx1 : x < 18446744073709551616 := by rw [hx]; exact Nat.lt_of_le_of_lt (Nat.div_le_self _ _) hh
  refine g_seq ?_
  refine g_region ?_
  refine l_of (s_val (v := .bool (decide (((i : Int) : Int) < 8))) (wt0 rfl) rfl rfl (x_bin rfl rfl rfl b_lss) ?_)
  refine g_nil ?_
  refine g_then ?_
  refine g_seq ?_
  by_cases hb6 : ((i : Int) : Int) < 8
  · skip
    refine g_cond_t rfl (decide_eq_true hb6) ?_
    refine g_skip ?_
    refine g_then ?_
    refine g_seq ?_
    refine g_block ?_
    refine g_seq ?_
    refine g_region ?_
    refine l_of (s_val (v := .int .i64 ((i : Int))) (wt0 rfl) rfl rfl (x_move rfl rfl) ?_)
    refine l_of (s_val (v := .int .i64 ((i : Int))) (wt0 rfl) rfl rfl (x_assign rfl rfl) ?_)
    refine g_nil ?_
    refine g_then ?_
    refine g_seq ?_
    refine g_region ?_
    refine l_of (s_val (v := .slice (some ⟨g1, 0, none⟩) (8) (8)) (wt0 rfl) rfl rfl (x_move rfl rfl) ?_)
    refine l_of (s_val (v := .int .i64 ((i : Int))) (wt0 rfl) rfl rfl (x_move rfl rfl) ?_)
    refine l_of (s_val (v := .int .i64 (((7 - i : Nat) : Int))) (wt0 rfl) rfl rfl (x_bin rfl rfl rfl (b_subN (a := 7) (b := i) (by omega))) ?_)
    refine l_of (s_val (v := .int .u64 ((x : Int))) (wt0 rfl) rfl rfl (x_move rfl rfl) ?_)
    refine l_of (s_val (v := .int .u64 (((x % 256 : Nat) : Int))) (wt0 rfl) rfl rfl (x_bin rfl rfl rfl (b_remU (a := x) (b := 256) (by omega))) ?_)
    refine l_of (s_val (v := .int .u8 (((x % 256 : Nat) : Int))) (wt0 rfl) rfl rfl (x_conv rfl rfl Tryd.underlying78 Tryd.underlying5 (by rw [wrapB, Nat.mod_mod])) ?_)
    refine l_of (s_val (v := .pointer (some ⟨g1, (7 - i), none⟩)) (wt0 rfl) rfl rfl (x_indexAddr (7 - i) rfl rfl rfl Tryd.underlying90 sz5 (by omega) (off' := (7 - i)) (by omega)) ?_)
    refine l_of (s_store1 H5 0 (wt0 rfl) rfl rfl rfl rfl rfl sz5 rfl rfl (by rw [nbV_size]; rw [eR_len]; omega) ?_)
    intro wq7 H8
    rw [nbV_set (eR h i) (7 - i) (x % 256)] at H8
    replace H8 : S wq7 [Ob g1 (.cells (nbV ((eR h i).set (7 - i) (x % 256))) 5 (0, 0)), Old w no] := H8
    refine g_nil ?_
    refine g_then ?_
    refine g_region ?_
    refine l_of (s_val (v := .int .u64 ((x : Int))) (wt0 rfl) rfl rfl (x_move rfl rfl) ?_)
    refine l_of (s_val (v := .int .u64 (((x / 256 : Nat) : Int))) (wt0 rfl) rfl rfl (x_bin rfl rfl rfl (b_quoU (a := x) (b := 256) (by omega))) ?_)
    refine l_of (s_val (v := .int .u64 (((x / 256 : Nat) : Int))) (wt0 rfl) rfl rfl (x_assign rfl rfl) ?_)
    refine g_nil ?_
    refine g_in ?_
    refine g_then ?_
    refine g_weak [(0, .int .u64 (((x / 256 : Nat) : Int))), (3, .slice (some ⟨g1, 0, none⟩) (8) (8)), (6, .int .i64 ((i : Int)))] ⟨rfl, rfl, rfl, trivial⟩ ?_
    refine g_region ?_
    refine l_of (s_val (v := .int .i64 ((i : Int) + 1)) (wt0 rfl) rfl rfl (x_bin rfl rfl rfl (b_add (w64 (by omega)))) ?_)
    refine l_of (s_val (v := .int .i64 ((i : Int) + 1)) (wt0 rfl) rfl rfl (x_move rfl rfl) ?_)
    refine g_nil ?_
    refine g_then ?_
    refine g_round (i := (i, x)) (i + 1, x / 256) ?_ ?_ ?_
    · exact ⟨rfl, rfl, rfl, trivial⟩
    · exact ⟨by omega, (by rw [hx, Nat.div_div_eq_div_mul, Nat.pow_succ]), (by rw [← eR_next (by omega), ← hx]; exact H8)⟩
    · (try dsimp only); omega
  · skip
    refine g_cond_f rfl (decide_eq_false hb6) ?_
    refine g_exit ?_
    refine g_then_exit ?_
    refine g_then_exit ?_
    refine g_in_hit ?_
    refine g_then ?_
    refine g_seq ?_
    refine g_region ?_
    refine l_of (s_val (v := .slice (some ⟨g1, 0, none⟩) (8) (8)) (wt0 rfl) rfl rfl (x_move rfl rfl) ?_)
    refine l_of (s_val (v := .string ((nbS (eR h i)))) (wt0 rfl) rfl rfl (x_bytes (l := (eR h i).map UInt8.ofNat) rfl rfl Tryd.underlying90 Tryd.underlying9 Tryd.underlying5 (by simp [eR_len]) (hc_nb (k := 0) H5 rfl (eR_lt h i))) ?_)
    refine l_of (s_val (v := .string ((nbS (eR h i)))) (wt0 rfl) rfl rfl (x_assign rfl rfl) ?_)
    refine g_nil ?_
    refine g_then ?_
    refine g_ret ?_
    refine fin_ret [.tmp 2] [.string ((nbS (eR h i)))] rfl ⟨rfl, trivial⟩ ?_
    have hi8 : i = 8 := by omega
    exact ⟨by rw [hi8, eR_all]; rfl, H5.mask [false, true]⟩
set_option maxRecDepth 20000 in
set_option maxHeartbeats 4000000 in
theorem one_r (s : ByteArray) (h : Nat) (hs : s.size ≤ 1099511627776) (hh : h < 18446744073709551616) (w : World) : Calls Tryd.prog 60 #[.string s, .int .u64 ((h : Int))] w fun e w' => e = .returned (.int .u64 ((endT (laneP s h s.size) s.size : Nat) : Int)) ∧ S w' [Old w no] := by
  have H0 := S.old w
  refine enter 35 Tryd.func60 rfl rfl rfl ?_
  refine g_weak [(0, .string s), (1, .int .u64 ((h : Int)))] ⟨rfl, rfl, trivial⟩ ?_
  refine g_seq ?_
  refine g_region ?_
  refine l_of (s_val (v := .int .u64 0) (wt0 rfl) rfl rfl (x_assign rfl rfl) ?_)
  refine g_nil ?_
  refine g_then ?_
  refine g_seq ?_
  refine g_seq ?_
  refine g_region ?_
  refine l_of (s_val (v := .string s) (wt0 rfl) rfl rfl (x_move rfl rfl) ?_)
  refine l_of (s_val (v := .int .i64 ((s.size : Int))) (wt0 rfl) rfl rfl (x_lens rfl rfl Tryd.underlying9) ?_)
  refine l_of (s_val (v := .int .i64 0) (wt0 rfl) rfl rfl (x_move rfl rfl) ?_)
  refine g_nil ?_
  refine g_then ?_
  refine g_block ?_
  refine g_loop (ι := Nat) (fun i => [(0, .string s), (1, .int .u64 (((laneP s h i : Nat) : Int))), (7, .int .i64 ((s.size : Int))), (8, .int .i64 ((i : Int)))]) (fun i wx => (i ≤ s.size) ∧ S wx [Old w no]) (fun i => s.size - i) (0) ⟨rfl, rfl, rfl, rfl, trivial⟩ ⟨Nat.zero_le _, H0⟩ ?_
  rintro i wq1 ⟨hi, H2⟩
  replace H2 : S wq1 [Old w no] := H2
  refine g_weak [(0, .string s), (1, .int .u64 (((laneP s h i : Nat) : Int))), (7, .int .i64 ((s.size : Int))), (8, .int .i64 ((i : Int)))] ⟨rfl, rfl, rfl, rfl, trivial⟩ ?_
  have hl := laneP_lt (s := s) hh i
  have hb8 := bt'_lt s i
  have hx := u64_xor hl (show bt' s i < 18446744073709551616 by omega)
  have hX : ((laneP s h i ^^^ bt' s i) * 1099511628211 % 18446744073709551616) < 18446744073709551616 := Nat.mod_lt _ (by omega)
  have hX2 : ((laneP s h i ^^^ bt' s i) * 1099511628211 % 18446744073709551616) / 536870912 ≤ ((laneP s h i ^^^ bt' s i) * 1099511628211 % 18446744073709551616) := Nat.div_le_self _ _
  have hz := u64_xor hl (show s.size < 18446744073709551616 by omega)
  have hY : ((laneP s h i ^^^ s.size) * 1099511628211 % 18446744073709551616) < 18446744073709551616 := Nat.mod_lt _ (by omega)
  have hY2 : ((laneP s h i ^^^ s.size) * 1099511628211 % 18446744073709551616) / 4294967296 ≤ ((laneP s h i ^^^ s.size) * 1099511628211 % 18446744073709551616) := Nat.div_le_self _ _
  refine g_seq ?_
  refine g_region ?_
  refine l_of (s_val (v := .bool (decide (((i : Int) : Int) < (s.size : Int)))) (wt0 rfl) rfl rfl (x_bin rfl rfl rfl b_lss) ?_)
  refine g_nil ?_
  refine g_then ?_
  refine g_seq ?_
  by_cases hb3 : ((i : Int) : Int) < (s.size : Int)
  · skip
    refine g_cond_t rfl (decide_eq_true hb3) ?_
    refine g_skip ?_
    refine g_then ?_
    refine g_seq ?_
    refine g_block ?_
    refine g_seq ?_
    refine g_region ?_
    refine l_of (s_val (v := .int .i64 ((i : Int))) (wt0 rfl) rfl rfl (x_move rfl rfl) ?_)
    refine l_of (s_val (v := .int .i64 ((i : Int))) (wt0 rfl) rfl rfl (x_assign rfl rfl) ?_)
    refine g_nil ?_
    refine g_then ?_
    refine g_seq ?_
    refine g_region ?_
    refine l_of (s_val (v := .int .u64 (((laneP s h i : Nat) : Int))) (wt0 rfl) rfl rfl (x_move rfl rfl) ?_)
    refine l_of (s_val (v := .string s) (wt0 rfl) rfl rfl (x_move rfl rfl) ?_)
    refine l_of (s_val (v := .int .i64 ((i : Int))) (wt0 rfl) rfl rfl (x_move rfl rfl) ?_)
    have hbt4 := bt'_lt s i
    refine l_of (s_val (v := .int .u8 ((bt' s i : Int))) (wt0 rfl) rfl rfl (x_index i rfl rfl rfl Tryd.underlying9 (by omega)) ?_)
    refine l_of (s_val (v := .int .u64 ((bt' s i : Int))) (wt0 rfl) rfl rfl (x_conv rfl rfl Tryd.underlying5 Tryd.underlying78 (wrapU (by omega))) ?_)
    refine l_of (s_val (v := .int .u64 (((laneP s h i ^^^ bt' s i : Nat) : Int))) (wt0 rfl) rfl rfl (x_bin rfl rfl rfl (b_xorU (a := laneP s h i) (b := bt' s i) (by omega))) ?_)
    refine l_of (s_val (v := .int .u64 (((((laneP s h i ^^^ bt' s i) * 1099511628211 % 18446744073709551616) : Nat) : Int))) (wt0 rfl) rfl rfl (x_bin rfl rfl rfl (b_mulU (laneP s h i ^^^ bt' s i) 1099511628211)) ?_)
    refine l_of (s_val (v := .int .u64 (((((laneP s h i ^^^ bt' s i) * 1099511628211 % 18446744073709551616) : Nat) : Int))) (wt0 rfl) rfl rfl (x_assign rfl rfl) ?_)
    refine g_nil ?_
    refine g_then ?_
    refine g_region ?_
    refine l_of (s_val (v := .int .u64 (((((laneP s h i ^^^ bt' s i) * 1099511628211 % 18446744073709551616) : Nat) : Int))) (wt0 rfl) rfl rfl (x_move rfl rfl) ?_)
    refine l_of (s_val (v := .int .u64 (((((laneP s h i ^^^ bt' s i) * 1099511628211 % 18446744073709551616) : Nat) : Int))) (wt0 rfl) rfl rfl (x_move rfl rfl) ?_)
    refine l_of (s_val (v := .int .u64 (((((laneP s h i ^^^ bt' s i) * 1099511628211 % 18446744073709551616) / 536870912 : Nat) : Int))) (wt0 rfl) rfl rfl (x_bin rfl rfl rfl (b_quoU (a := ((laneP s h i ^^^ bt' s i) * 1099511628211 % 18446744073709551616)) (b := 536870912) (by omega))) ?_)
    refine l_of (s_val (v := .int .u64 (((laneP s h (i + 1) : Nat) : Int))) (wt0 rfl) rfl rfl (x_bin rfl rfl rfl (b_xorU (a := ((laneP s h i ^^^ bt' s i) * 1099511628211 % 18446744073709551616)) (b := ((laneP s h i ^^^ bt' s i) * 1099511628211 % 18446744073709551616) / 536870912) (by omega))) ?_)
    refine l_of (s_val (v := .int .u64 (((laneP s h (i + 1) : Nat) : Int))) (wt0 rfl) rfl rfl (x_assign rfl rfl) ?_)
    refine g_nil ?_
    refine g_in ?_
    refine g_then ?_
    refine g_weak [(0, .string s), (1, .int .u64 (((laneP s h (i + 1) : Nat) : Int))), (7, .int .i64 ((s.size : Int))), (8, .int .i64 ((i : Int)))] ⟨rfl, rfl, rfl, rfl, trivial⟩ ?_
    refine g_region ?_
    refine l_of (s_val (v := .int .i64 ((i : Int) + 1)) (wt0 rfl) rfl rfl (x_bin rfl rfl rfl (b_add (w64 (by omega)))) ?_)
    refine l_of (s_val (v := .int .i64 ((i : Int) + 1)) (wt0 rfl) rfl rfl (x_move rfl rfl) ?_)
    refine g_nil ?_
    refine g_then ?_
    refine g_round (i := (i)) (i + 1) ?_ ?_ ?_
    · exact ⟨rfl, rfl, rfl, rfl, trivial⟩
    · exact ⟨by omega, H2⟩
    · (try dsimp only); omega
  · skip
    refine g_cond_f rfl (decide_eq_false hb3) ?_
    refine g_exit ?_
    refine g_then_exit ?_
    refine g_then_exit ?_
    refine g_in_hit ?_
    refine g_then ?_
    refine g_seq ?_
    refine g_region ?_
    refine l_of (s_val (v := .int .u64 (((laneP s h i : Nat) : Int))) (wt0 rfl) rfl rfl (x_move rfl rfl) ?_)
    refine l_of (s_val (v := .string s) (wt0 rfl) rfl rfl (x_move rfl rfl) ?_)
    refine l_of (s_val (v := .int .i64 ((s.size : Int))) (wt0 rfl) rfl rfl (x_lens rfl rfl Tryd.underlying9) ?_)
    refine l_of (s_val (v := .int .u64 ((s.size : Int))) (wt0 rfl) rfl rfl (x_conv rfl rfl Tryd.underlying3 Tryd.underlying78 (wrapU (by omega))) ?_)
    refine l_of (s_val (v := .int .u64 (((laneP s h i ^^^ s.size : Nat) : Int))) (wt0 rfl) rfl rfl (x_bin rfl rfl rfl (b_xorU (a := laneP s h i) (b := s.size) (by omega))) ?_)
    refine l_of (s_val (v := .int .u64 (((((laneP s h i ^^^ s.size) * 1099511628211 % 18446744073709551616) : Nat) : Int))) (wt0 rfl) rfl rfl (x_bin rfl rfl rfl (b_mulU (laneP s h i ^^^ s.size) 1099511628211)) ?_)
    refine l_of (s_val (v := .int .u64 (((((laneP s h i ^^^ s.size) * 1099511628211 % 18446744073709551616) : Nat) : Int))) (wt0 rfl) rfl rfl (x_assign rfl rfl) ?_)
    refine g_nil ?_
    refine g_then ?_
    refine g_seq ?_
    refine g_region ?_
    refine l_of (s_val (v := .int .u64 (((((laneP s h i ^^^ s.size) * 1099511628211 % 18446744073709551616) : Nat) : Int))) (wt0 rfl) rfl rfl (x_move rfl rfl) ?_)
    refine l_of (s_val (v := .int .u64 (((((laneP s h i ^^^ s.size) * 1099511628211 % 18446744073709551616) : Nat) : Int))) (wt0 rfl) rfl rfl (x_move rfl rfl) ?_)
    refine l_of (s_val (v := .int .u64 (((((laneP s h i ^^^ s.size) * 1099511628211 % 18446744073709551616) / 4294967296 : Nat) : Int))) (wt0 rfl) rfl rfl (x_bin rfl rfl rfl (b_quoU (a := ((laneP s h i ^^^ s.size) * 1099511628211 % 18446744073709551616)) (b := 4294967296) (by omega))) ?_)
    refine l_of (s_val (v := .int .u64 (((((laneP s h i ^^^ s.size) * 1099511628211 % 18446744073709551616) ^^^ ((laneP s h i ^^^ s.size) * 1099511628211 % 18446744073709551616) / 4294967296 : Nat) : Int))) (wt0 rfl) rfl rfl (x_bin rfl rfl rfl (b_xorU (a := ((laneP s h i ^^^ s.size) * 1099511628211 % 18446744073709551616)) (b := ((laneP s h i ^^^ s.size) * 1099511628211 % 18446744073709551616) / 4294967296) (by omega))) ?_)
    refine l_of (s_val (v := .int .u64 (((((laneP s h i ^^^ s.size) * 1099511628211 % 18446744073709551616) ^^^ ((laneP s h i ^^^ s.size) * 1099511628211 % 18446744073709551616) / 4294967296 : Nat) : Int))) (wt0 rfl) rfl rfl (x_assign rfl rfl) ?_)
    refine g_nil ?_
    refine g_then ?_
    refine g_weak [(1, .int .u64 (((((laneP s h i ^^^ s.size) * 1099511628211 % 18446744073709551616) ^^^ ((laneP s h i ^^^ s.size) * 1099511628211 % 18446744073709551616) / 4294967296 : Nat) : Int)))] ⟨rfl, trivial⟩ ?_
    refine g_seq ?_
    refine g_region ?_
    refine l_of (s_val (v := .int .u64 (((((laneP s h i ^^^ s.size) * 1099511628211 % 18446744073709551616) ^^^ ((laneP s h i ^^^ s.size) * 1099511628211 % 18446744073709551616) / 4294967296 : Nat) : Int))) (wt0 rfl) rfl rfl (x_move rfl rfl) ?_)
    refine l_of (s_val (v := .int .u64 (((endT (laneP s h i) s.size : Nat) : Int))) (wt0 rfl) rfl rfl (x_bin rfl rfl rfl (b_mulU (((laneP s h i ^^^ s.size) * 1099511628211 % 18446744073709551616) ^^^ ((laneP s h i ^^^ s.size) * 1099511628211 % 18446744073709551616) / 4294967296) 1099511628211)) ?_)
    refine l_of (s_val (v := .int .u64 (((endT (laneP s h i) s.size : Nat) : Int))) (wt0 rfl) rfl rfl (x_assign rfl rfl) ?_)
    refine g_nil ?_
    refine g_then ?_
    refine g_ret ?_
    refine fin_ret [.tmp 4] [.int .u64 (((endT (laneP s h i) s.size : Nat) : Int))] rfl ⟨rfl, trivial⟩ ?_
    have hii : i = s.size := by omega
    exact ⟨by rw [hii]; rfl, H2.mask [true]⟩
set_option maxRecDepth 20000 in
set_option maxHeartbeats 4000000 in
theorem start_r (k : Nat)  (w : World) : Calls Tryd.prog 61 #[.int .u64 ((k : Int))] w fun e w' => e = .returned (.int .u64 ((startT k : Nat) : Int)) ∧ S w' [Old w no] := by
  have H0 := S.old w
  refine enter 6 Tryd.func61 rfl rfl rfl ?_
  refine g_weak [(0, .int .u64 ((k : Int)))] ⟨rfl, trivial⟩ ?_
  refine g_seq ?_
  refine g_region ?_
  refine l_of (s_val (v := .int .u64 0) (wt0 rfl) rfl rfl (x_assign rfl rfl) ?_)
  refine g_nil ?_
  refine g_then ?_
  refine g_seq ?_
  refine g_region ?_
  refine l_of (s_val (v := .int .u64 ((k : Int))) (wt0 rfl) rfl rfl (x_move rfl rfl) ?_)
  refine l_of (s_val (v := .int .u64 (((k * 11400714819323198485 % 18446744073709551616 : Nat) : Int))) (wt0 rfl) rfl rfl (x_bin rfl rfl rfl (b_mulU k 11400714819323198485)) ?_)
  refine l_of (s_val (v := .int .u64 (((startT k : Nat) : Int))) (wt0 rfl) rfl rfl (x_bin rfl rfl rfl (b_addU 14695981039346656037 (k * 11400714819323198485 % 18446744073709551616))) ?_)
  refine l_of (s_val (v := .int .u64 (((startT k : Nat) : Int))) (wt0 rfl) rfl rfl (x_assign rfl rfl) ?_)
  refine g_nil ?_
  refine g_then ?_
  refine g_ret ?_
  refine fin_ret [.tmp 2] [.int .u64 (((startT k : Nat) : Int))] rfl ⟨rfl, trivial⟩ ?_
  exact ⟨rfl, H0.mask [true]⟩
theorem lanes_at {s : ByteArray} {k : Nat} (h : k < 4) : (lanesT s).getD k 0 = laneP s (startT k) s.size := by
  match k, h with
  | 0, _ => rfl
  | 1, _ => rfl
  | 2, _ => rfl
  | 3, _ => rfl
set_option maxRecDepth 20000 in
set_option maxHeartbeats 4000000 in
theorem sum_r (s : ByteArray) (hs : s.size ≤ 1099511627776) (w : World) : Calls Tryd.prog 50 #[.string s] w fun e w' => e = .returned (.string (sumS s)) ∧ S w' [Old w no] := by
  have H0 := S.old w
  refine enter 18 Tryd.func50 rfl rfl rfl ?_
  refine g_weak [(0, .string s)] ⟨rfl, trivial⟩ ?_
  refine g_seq ?_
  refine g_region ?_
  refine l_of (s_val (v := .string (⟨#[]⟩)) (wt0 rfl) rfl rfl (x_assign rfl rfl) ?_)
  refine g_nil ?_
  refine g_then ?_
  refine g_seq ?_
  refine g_region ?_
  refine l_of (s_val (v := .string (⟨#[]⟩)) (wt0 rfl) rfl rfl (x_assign rfl rfl) ?_)
  refine g_nil ?_
  refine g_then ?_
  refine g_seq ?_
  refine g_seq ?_
  refine g_region ?_
  refine l_of (s_val (v := .int .i64 0) (wt0 rfl) rfl rfl (x_move rfl rfl) ?_)
  refine g_nil ?_
  refine g_then ?_
  refine g_block ?_
  refine g_loop (ι := Nat × ByteArray) (fun (k, out) => [(0, .string s), (3, .string out), (5, .int .i64 ((k : Int)))]) (fun (k, out) wx => (k ≤ 4) ∧ (out = nbS (sumTo (lanesT s) s.size k)) ∧ (out.size = 8 * k) ∧ S wx [Old w no]) (fun (k, out) => 4 - k) (0, ⟨#[]⟩) ⟨rfl, rfl, rfl, trivial⟩ ⟨Nat.zero_le _, rfl, rfl, H0⟩ ?_
  rintro ⟨k, out⟩ wq1 ⟨hk, hout, hsz, H2⟩
  replace H2 : S wq1 [Old w no] := H2
  refine g_weak [(0, .string s), (3, .string out), (5, .int .i64 ((k : Int)))] ⟨rfl, rfl, rfl, trivial⟩ ?_
  have he8 : ∀ n, (nbS (eightT n)).size = 8 := fun n => by rw [nbS_size]; exact eightTo_len n 8
  refine g_seq ?_
  refine g_region ?_
  refine l_of (s_val (v := .bool (decide (((k : Int) : Int) < 4))) (wt0 rfl) rfl rfl (x_bin rfl rfl rfl b_lss) ?_)
  refine g_nil ?_
  refine g_then ?_
  refine g_seq ?_
  by_cases hb3 : ((k : Int) : Int) < 4
  · skip
    refine g_cond_t rfl (decide_eq_true hb3) ?_
    refine g_skip ?_
    refine g_then ?_
    refine g_seq ?_
    refine g_block ?_
    refine g_seq ?_
    refine g_region ?_
    refine l_of (s_val (v := .int .i64 ((k : Int))) (wt0 rfl) rfl rfl (x_move rfl rfl) ?_)
    refine l_of (s_val (v := .int .i64 ((k : Int))) (wt0 rfl) rfl rfl (x_assign rfl rfl) ?_)
    refine g_nil ?_
    refine g_then ?_
    refine g_region ?_
    refine l_of (s_val (v := .string out) (wt0 rfl) rfl rfl (x_move rfl rfl) ?_)
    refine l_of (s_val (v := .string s) (wt0 rfl) rfl rfl (x_move rfl rfl) ?_)
    refine l_of (s_val (v := .int .i64 ((k : Int))) (wt0 rfl) rfl rfl (x_move rfl rfl) ?_)
    refine l_of (s_val (v := .int .u64 ((k : Int))) (wt0 rfl) rfl rfl (x_conv rfl rfl Tryd.underlying3 Tryd.underlying78 (wrapU (by omega))) ?_)
    refine l_of (s_call (wt0 rfl) (x_call' rfl rfl cl61) (start_r _ _) ?_)
    rintro _ wq4 ⟨rfl, H5⟩
    replace H5 : S wq4 [Old w no] := H2.absorb (new := []) H5
    refine b_ret rfl rfl ?_
    refine l_of (s_call (wt0 rfl) (x_call' rfl rfl cl60) (one_r _ _ (by omega) (startT_lt _) _) ?_)
    rintro _ wq6 ⟨rfl, H7⟩
    replace H7 : S wq6 [Old w no] := H5.absorb (new := []) H7
    refine b_ret rfl rfl ?_
    refine l_of (s_call (wt0 rfl) (x_call' rfl rfl cl59) (eight_r _ (endT_lt _ _) _) ?_)
    rintro _ wq8 ⟨rfl, H9⟩
    replace H9 : S wq8 [Old w no] := H7.absorb (new := []) H9
    refine b_ret rfl rfl ?_
    have hq8 := he8 (endT (laneP s (startT k) s.size) s.size)
    have hsz10 : (out ++ (nbS (eightT (endT (laneP s (startT k) s.size) s.size)))).size = out.size + (nbS (eightT (endT (laneP s (startT k) s.size) s.size))).size := ByteArray.size_append
    refine l_of (s_val (v := .string (out ++ (nbS (eightT (endT (laneP s (startT k) s.size) s.size))))) (wt0 rfl) rfl rfl (x_bin rfl rfl rfl (b_cat (by omega))) ?_)
    refine l_of (s_val (v := .string (out ++ (nbS (eightT (endT (laneP s (startT k) s.size) s.size))))) (wt0 rfl) rfl rfl (x_assign rfl rfl) ?_)
    refine g_nil ?_
    refine g_in ?_
    refine g_then ?_
    refine g_region ?_
    refine l_of (s_val (v := .int .i64 ((k : Int) + 1)) (wt0 rfl) rfl rfl (x_bin rfl rfl rfl (b_add (w64 (by omega)))) ?_)
    refine l_of (s_val (v := .int .i64 ((k : Int) + 1)) (wt0 rfl) rfl rfl (x_move rfl rfl) ?_)
    refine g_nil ?_
    refine g_then ?_
    refine g_round (i := (k, out)) (k + 1, out ++ (nbS (eightT (endT (laneP s (startT k) s.size) s.size)))) ?_ ?_ ?_
    · exact ⟨rfl, rfl, rfl, trivial⟩
    · exact ⟨by omega, (by rw [hout, nbS_app, ← lanes_at (by omega), ← sumTo_next (by show k < 4; omega)]), (by rw [ByteArray.size_append, nbS_size, hsz]; show _ + (eightTo _ 8).length = _; rw [eightTo_len]; omega), H9⟩
    · (try dsimp only); omega
  · skip
    refine g_cond_f rfl (decide_eq_false hb3) ?_
    refine g_exit ?_
    refine g_then_exit ?_
    refine g_then_exit ?_
    refine g_in_hit ?_
    refine g_then ?_
    refine g_seq ?_
    refine g_region ?_
    refine l_of (s_val (v := .string out) (wt0 rfl) rfl rfl (x_move rfl rfl) ?_)
    refine l_of (s_val (v := .string out) (wt0 rfl) rfl rfl (x_assign rfl rfl) ?_)
    refine g_nil ?_
    refine g_then ?_
    refine g_ret ?_
    refine fin_ret [.tmp 2] [.string out] rfl ⟨rfl, trivial⟩ ?_
    have hk4 : k = 4 := by omega
    exact ⟨by rw [hout, hk4]; rfl, H2.mask [true]⟩
end Go.Proofs.YthfglkkjkpdkpaaDoor
