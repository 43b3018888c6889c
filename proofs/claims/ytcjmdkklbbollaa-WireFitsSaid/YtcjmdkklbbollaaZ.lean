import Derived.Test.YtcjmdkklbbollaaX
set_option linter.unusedSimpArgs false
set_option linter.unusedVariables false
namespace Go.Proofs.Ytcjmdkklbbollaa
open Go.RowKit
set_option maxRecDepth 20000 in
theorem ft_idx (k n : Int) (n0 : 0 ≤ n) (n1 : n ≤ 5000) (h0 : isIdx k = true) (w : World) : Calls Try.prog 59 #[.int .i64 k, .int .i64 n] w fun e w' => e = .returned (.bool (n == 4)) ∧ w = w' := by
  go_enter Try.func59, Try.ntmps59
  go_wp2_with (first | ((with_reducible refine (indexed_r _ _).mono ?_); rintro e w' ⟨rfl, rfl⟩) | ((with_reducible refine (block_r _ _).mono ?_); rintro e w' ⟨rfl, rfl⟩))
  go_ret
  exact ⟨by first | rfl | simp [*], rfl⟩

set_option maxRecDepth 20000 in
theorem ft_bits (k n : Int) (n0 : 0 ≤ n) (n1 : n ≤ 5000) (h0 : isIdx k = false) (h1 : (k == 7) = true) (w : World) : Calls Try.prog 59 #[.int .i64 k, .int .i64 n] w fun e w' => e = .returned (.bool (decide (n ≤ 512))) ∧ w = w' := by
  go_enter Try.func59, Try.ntmps59
  go_wp2_with (first | ((with_reducible refine (indexed_r _ _).mono ?_); rintro e w' ⟨rfl, rfl⟩) | ((with_reducible refine (block_r _ _).mono ?_); rintro e w' ⟨rfl, rfl⟩))
  go_ret
  exact ⟨by first | rfl | simp [*], rfl⟩

set_option maxRecDepth 20000 in
theorem ft_blk (k n : Int) (n0 : 0 ≤ n) (n1 : n ≤ 5000) (h0 : isIdx k = false) (h1 : (k == 7) = false) (h2 : isBlock k = true) (w : World) : Calls Try.prog 59 #[.int .i64 k, .int .i64 n] w fun e w' => e = .returned (.bool (n == 12)) ∧ w = w' := by
  go_enter Try.func59, Try.ntmps59
  go_wp2_with (first | ((with_reducible refine (indexed_r _ _).mono ?_); rintro e w' ⟨rfl, rfl⟩) | ((with_reducible refine (block_r _ _).mono ?_); rintro e w' ⟨rfl, rfl⟩))
  go_ret
  exact ⟨by first | rfl | simp [*], rfl⟩

set_option maxRecDepth 20000 in
theorem ft_pc0 (k n : Int) (n0 : 0 ≤ n) (n1 : n ≤ 5000) (h0 : isIdx k = false) (h1 : (k == 7) = false) (h2 : isBlock k = false) (h3 : (k == 9) = true) (h4 : ¬ 9 ≤ n) (w : World) : Calls Try.prog 59 #[.int .i64 k, .int .i64 n] w fun e w' => e = .returned (.bool (false)) ∧ w = w' := by
  go_enter Try.func59, Try.ntmps59
  go_wp2_with (first | ((with_reducible refine (indexed_r _ _).mono ?_); rintro e w' ⟨rfl, rfl⟩) | ((with_reducible refine (block_r _ _).mono ?_); rintro e w' ⟨rfl, rfl⟩))
  go_ret
  exact ⟨by first | rfl | simp [*], rfl⟩

set_option maxRecDepth 20000 in
theorem ft_pc1 (k n : Int) (n0 : 0 ≤ n) (n1 : n ≤ 5000) (h0 : isIdx k = false) (h1 : (k == 7) = false) (h2 : isBlock k = false) (h3 : (k == 9) = true) (h4 : 9 ≤ n) (w : World) : Calls Try.prog 59 #[.int .i64 k, .int .i64 n] w fun e w' => e = .returned (.bool (decide (n ≤ 1032))) ∧ w = w' := by
  go_enter Try.func59, Try.ntmps59
  go_wp2_with (first | ((with_reducible refine (indexed_r _ _).mono ?_); rintro e w' ⟨rfl, rfl⟩) | ((with_reducible refine (block_r _ _).mono ?_); rintro e w' ⟨rfl, rfl⟩))
  go_ret
  exact ⟨by first | rfl | simp [*], rfl⟩

set_option maxRecDepth 20000 in
theorem ft_pt (k n : Int) (n0 : 0 ≤ n) (n1 : n ≤ 5000) (h0 : isIdx k = false) (h1 : (k == 7) = false) (h2 : isBlock k = false) (h3 : (k == 9) = false) (h4 : (k == 11) = true) (w : World) : Calls Try.prog 59 #[.int .i64 k, .int .i64 n] w fun e w' => e = .returned (.bool (n == 2)) ∧ w = w' := by
  go_enter Try.func59, Try.ntmps59
  go_wp2_with (first | ((with_reducible refine (indexed_r _ _).mono ?_); rintro e w' ⟨rfl, rfl⟩) | ((with_reducible refine (block_r _ _).mono ?_); rintro e w' ⟨rfl, rfl⟩))
  go_ret
  exact ⟨by first | rfl | simp [*], rfl⟩

set_option maxRecDepth 20000 in
theorem ft_ex0 (k n : Int) (n0 : 0 ≤ n) (n1 : n ≤ 5000) (h0 : isIdx k = false) (h1 : (k == 7) = false) (h2 : isBlock k = false) (h3 : (k == 9) = false) (h4 : (k == 11) = false) (h5 : (k == 17) = true) (h6 : ¬ 1 ≤ n) (w : World) : Calls Try.prog 59 #[.int .i64 k, .int .i64 n] w fun e w' => e = .returned (.bool (false)) ∧ w = w' := by
  go_enter Try.func59, Try.ntmps59
  go_wp2_with (first | ((with_reducible refine (indexed_r _ _).mono ?_); rintro e w' ⟨rfl, rfl⟩) | ((with_reducible refine (block_r _ _).mono ?_); rintro e w' ⟨rfl, rfl⟩))
  go_ret
  exact ⟨by first | rfl | simp [*], rfl⟩

set_option maxRecDepth 20000 in
theorem ft_ex1 (k n : Int) (n0 : 0 ≤ n) (n1 : n ≤ 5000) (h0 : isIdx k = false) (h1 : (k == 7) = false) (h2 : isBlock k = false) (h3 : (k == 9) = false) (h4 : (k == 11) = false) (h5 : (k == 17) = true) (h6 : 1 ≤ n) (w : World) : Calls Try.prog 59 #[.int .i64 k, .int .i64 n] w fun e w' => e = .returned (.bool (decide (n ≤ 4097))) ∧ w = w' := by
  go_enter Try.func59, Try.ntmps59
  go_wp2_with (first | ((with_reducible refine (indexed_r _ _).mono ?_); rintro e w' ⟨rfl, rfl⟩) | ((with_reducible refine (block_r _ _).mono ?_); rintro e w' ⟨rfl, rfl⟩))
  go_ret
  exact ⟨by first | rfl | simp [*], rfl⟩

set_option maxRecDepth 20000 in
theorem ft_ask (k n : Int) (n0 : 0 ≤ n) (n1 : n ≤ 5000) (h0 : isIdx k = false) (h1 : (k == 7) = false) (h2 : isBlock k = false) (h3 : (k == 9) = false) (h4 : (k == 11) = false) (h5 : (k == 17) = false) (h6 : (k == 18) = true) (w : World) : Calls Try.prog 59 #[.int .i64 k, .int .i64 n] w fun e w' => e = .returned (.bool (n == 48)) ∧ w = w' := by
  go_enter Try.func59, Try.ntmps59
  go_wp2_with (first | ((with_reducible refine (indexed_r _ _).mono ?_); rintro e w' ⟨rfl, rfl⟩) | ((with_reducible refine (block_r _ _).mono ?_); rintro e w' ⟨rfl, rfl⟩))
  go_ret
  exact ⟨by first | rfl | simp [*], rfl⟩

set_option maxRecDepth 20000 in
theorem ft_ref (k n : Int) (n0 : 0 ≤ n) (n1 : n ≤ 5000) (h0 : isIdx k = false) (h1 : (k == 7) = false) (h2 : isBlock k = false) (h3 : (k == 9) = false) (h4 : (k == 11) = false) (h5 : (k == 17) = false) (h6 : (k == 18) = false) (h7 : (k == 20) = true) (w : World) : Calls Try.prog 59 #[.int .i64 k, .int .i64 n] w fun e w' => e = .returned (.bool (n == 48)) ∧ w = w' := by
  go_enter Try.func59, Try.ntmps59
  go_wp2_with (first | ((with_reducible refine (indexed_r _ _).mono ?_); rintro e w' ⟨rfl, rfl⟩) | ((with_reducible refine (block_r _ _).mono ?_); rintro e w' ⟨rfl, rfl⟩))
  go_ret
  exact ⟨by first | rfl | simp [*], rfl⟩

set_option maxRecDepth 20000 in
theorem ft_h0 (k n : Int) (n0 : 0 ≤ n) (n1 : n ≤ 5000) (h0 : isIdx k = false) (h1 : (k == 7) = false) (h2 : isBlock k = false) (h3 : (k == 9) = false) (h4 : (k == 11) = false) (h5 : (k == 17) = false) (h6 : (k == 18) = false) (h7 : (k == 20) = false) (h8 : (k == 19) = true) (h9 : ¬ 80 ≤ n) (w : World) : Calls Try.prog 59 #[.int .i64 k, .int .i64 n] w fun e w' => e = .returned (.bool (false)) ∧ w = w' := by
  go_enter Try.func59, Try.ntmps59
  go_wp2_with (first | ((with_reducible refine (indexed_r _ _).mono ?_); rintro e w' ⟨rfl, rfl⟩) | ((with_reducible refine (block_r _ _).mono ?_); rintro e w' ⟨rfl, rfl⟩))
  go_ret
  exact ⟨by first | rfl | simp [*], rfl⟩

set_option maxRecDepth 20000 in
theorem ft_h1 (k n : Int) (n0 : 0 ≤ n) (n1 : n ≤ 5000) (h0 : isIdx k = false) (h1 : (k == 7) = false) (h2 : isBlock k = false) (h3 : (k == 9) = false) (h4 : (k == 11) = false) (h5 : (k == 17) = false) (h6 : (k == 18) = false) (h7 : (k == 20) = false) (h8 : (k == 19) = true) (h9 : 80 ≤ n) (h10 : ¬ n ≤ 2096) (w : World) : Calls Try.prog 59 #[.int .i64 k, .int .i64 n] w fun e w' => e = .returned (.bool (false)) ∧ w = w' := by
  go_enter Try.func59, Try.ntmps59
  go_wp2_with (first | ((with_reducible refine (indexed_r _ _).mono ?_); rintro e w' ⟨rfl, rfl⟩) | ((with_reducible refine (block_r _ _).mono ?_); rintro e w' ⟨rfl, rfl⟩))
  go_ret
  exact ⟨by first | rfl | simp [*], rfl⟩

set_option maxRecDepth 20000 in
theorem ft_h2 (k n : Int) (n0 : 0 ≤ n) (n1 : n ≤ 5000) (h0 : isIdx k = false) (h1 : (k == 7) = false) (h2 : isBlock k = false) (h3 : (k == 9) = false) (h4 : (k == 11) = false) (h5 : (k == 17) = false) (h6 : (k == 18) = false) (h7 : (k == 20) = false) (h8 : (k == 19) = true) (h9 : 80 ≤ n) (h10 : n ≤ 2096) (w : World) : Calls Try.prog 59 #[.int .i64 k, .int .i64 n] w fun e w' => e = .returned (.bool ((n - 48) % 32 == 0)) ∧ w = w' := by
  go_enter Try.func59, Try.ntmps59
  go_wp2_with (first | ((with_reducible refine (indexed_r _ _).mono ?_); rintro e w' ⟨rfl, rfl⟩) | ((with_reducible refine (block_r _ _).mono ?_); rintro e w' ⟨rfl, rfl⟩))
  go_ret
  exact ⟨by first | rfl | simp [*], rfl⟩

set_option maxRecDepth 20000 in
theorem ft_none (k n : Int) (n0 : 0 ≤ n) (n1 : n ≤ 5000) (h0 : isIdx k = false) (h1 : (k == 7) = false) (h2 : isBlock k = false) (h3 : (k == 9) = false) (h4 : (k == 11) = false) (h5 : (k == 17) = false) (h6 : (k == 18) = false) (h7 : (k == 20) = false) (h8 : (k == 19) = false) (w : World) : Calls Try.prog 59 #[.int .i64 k, .int .i64 n] w fun e w' => e = .returned (.bool (n == 0)) ∧ w = w' := by
  go_enter Try.func59, Try.ntmps59
  go_wp2_with (first | ((with_reducible refine (indexed_r _ _).mono ?_); rintro e w' ⟨rfl, rfl⟩) | ((with_reducible refine (block_r _ _).mono ?_); rintro e w' ⟨rfl, rfl⟩))
  go_ret
  exact ⟨by first | rfl | simp [*], rfl⟩

end Go.Proofs.Ytcjmdkklbbollaa
