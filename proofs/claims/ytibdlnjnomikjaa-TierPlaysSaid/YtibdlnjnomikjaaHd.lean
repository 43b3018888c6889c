import Derived.Test.YtibdlnjnomikjaaFk
import Derived.Test.YtibdlnjnomikjaaHc
import Derived.Lib.Bytealg
set_option linter.unusedSimpArgs false
set_option linter.unusedVariables false
namespace Go.Proofs.Ytibdlnjnomikjaa
open Go.RowKit

theorem cl24 : callable Try.prog 24 = true := by kernel_rfl
theorem cl36 : callable Try.prog 36 = true := by kernel_rfl
theorem cl56 : callable Try.prog 56 = true := by kernel_rfl
theorem cl60 : callable Try.prog 60 = true := by kernel_rfl
def oldS (s : ByteArray) : ByteArray := (sumS ((⟨#[111, 108, 100, 58]⟩ : ByteArray) ++ s)).extract 0 20
def waitS (n : Int) : Int := if n = 0 then 0 else min (5000 + 5000 * min n 100 * min n 100) 3600000
set_option maxRecDepth 20000 in
set_option maxHeartbeats 4000000 in
theorem old_h (s : ByteArray) (hs : s.size ≤ 1048576) (w : World) : Calls Try.prog 29 #[.string s] w fun e w' => e = .returned (.string (oldS s)) ∧ S w' [Old w no] := by
 have H0 := S.old w
 have hz4 : (⟨#[111, 108, 100, 58]⟩ : ByteArray).size = 4 := rfl
 refine enter 7 Try.func29 rfl rfl rfl ?_
 refine g_weak [(0, .string s)] ⟨rfl, trivial⟩ ?_
 refine w_s ?_
 refine w_a ?_
 refine w_e ?_
 refine w_s ?_
 refine w_m ?_
 have hsz1 : ((⟨#[111, 108, 100, 58]⟩ : ByteArray) ++ s).size = (⟨#[111, 108, 100, 58]⟩ : ByteArray).size + s.size := ByteArray.size_append
 refine w_b (v := .string ((⟨#[111, 108, 100, 58]⟩ : ByteArray) ++ s)) (hb := (b_cat (by omega))) ?_
 refine l_of (s_call0 H0 (wt0 rfl) (x_call' rfl rfl cl56) (sum_h _ (by omega) _) rfl rfl ?_)
 intro wq2 H3
 have hss := sumS_size ((⟨#[111, 108, 100, 58]⟩ : ByteArray) ++ s)
 refine w_v (v := .string ((oldS s))) (x_slices 0 20 rfl rfl Try.underlying9 (.inl ⟨rfl, rfl⟩) (.inr ⟨_, _, _, rfl, rfl, by omega⟩) (by omega)) ?_
 refine w_a ?_
 refine w_e ?_
 refine g_ret ?_
 refine fin_ret [.tmp 2] [.string ((oldS s))] rfl ⟨rfl, trivial⟩ ?_
 exact ⟨rfl, H3.mask [true]⟩
set_option maxRecDepth 20000 in
set_option maxHeartbeats 4000000 in
theorem old_r (s : ByteArray) (hs : s.size ≤ 1048576) (w : World) : Calls Try.prog 39 #[.string s] w fun e w' => e = .returned (.string (oldS s)) ∧ S w' [Old w no] := by
 have H0 := S.old w
 have hz4 : (⟨#[111, 108, 100, 58]⟩ : ByteArray).size = 4 := rfl
 refine enter 7 Try.func39 rfl rfl rfl ?_
 refine g_weak [(0, .string s)] ⟨rfl, trivial⟩ ?_
 refine w_s ?_
 refine w_a ?_
 refine w_e ?_
 refine w_s ?_
 refine w_m ?_
 have hsz1 : ((⟨#[111, 108, 100, 58]⟩ : ByteArray) ++ s).size = (⟨#[111, 108, 100, 58]⟩ : ByteArray).size + s.size := ByteArray.size_append
 refine w_b (v := .string ((⟨#[111, 108, 100, 58]⟩ : ByteArray) ++ s)) (hb := (b_cat (by omega))) ?_
 refine l_of (s_call0 H0 (wt0 rfl) (x_call' rfl rfl cl60) (sum_r _ (by omega) _) rfl rfl ?_)
 intro wq2 H3
 have hss := sumS_size ((⟨#[111, 108, 100, 58]⟩ : ByteArray) ++ s)
 refine w_v (v := .string ((oldS s))) (x_slices 0 20 rfl rfl Try.underlying9 (.inl ⟨rfl, rfl⟩) (.inr ⟨_, _, _, rfl, rfl, by omega⟩) (by omega)) ?_
 refine w_a ?_
 refine w_e ?_
 refine g_ret ?_
 refine fin_ret [.tmp 2] [.string ((oldS s))] rfl ⟨rfl, trivial⟩ ?_
 exact ⟨rfl, H3.mask [true]⟩
theorem sq_le {m : Int} (h0 : 0 ≤ m) {k : Int} (h1 : m ≤ k) : 0 ≤ 5000 * m * m ∧ 5000 * m * m ≤ 5000 * (k * k) := by
  rw [Int.mul_assoc]
  exact ⟨Int.mul_nonneg (by decide) (Int.mul_nonneg h0 h0), Int.mul_le_mul_of_nonneg_left (Int.mul_le_mul h1 h1 h0 (by omega)) (by decide)⟩
theorem waitS_ge (n : Int) (h : 0 ≤ n) : 0 ≤ waitS n ∧ waitS n ≤ 3600000 := by
  have h2 := sq_le (m := min n 100) (k := 100) (by omega) (by omega)
  unfold waitS
  split <;> omega
theorem waitS_big {n : Int} (h : 30 < n) : waitS n = 3600000 := by
  have h2 : 5000 * (31 * 31) ≤ 5000 * min n 100 * min n 100 := by
    rw [Int.mul_assoc]
    exact Int.mul_le_mul_of_nonneg_left (Int.mul_le_mul (by omega) (by omega) (by decide) (by omega)) (by decide)
  unfold waitS
  rw [if_neg (by omega)]; omega
theorem waitS_small {n : Int} (h : 1 ≤ n) (h1 : n ≤ 30) : waitS n = min (5000 + 5000 * n * n) 3600000 := by
  unfold waitS
  rw [if_neg (by omega), show min n 100 = n from by omega]
set_option maxRecDepth 20000 in
set_option maxHeartbeats 4000000 in
theorem wait_t (n : Int) (h0 : 0 ≤ n) (h1 : n ≤ 1000000) (w : World) : Calls Try.prog 36 #[.int .i64 n] w fun e w' => e = .returned (.int .i64 (waitS n)) ∧ S w' [Old w no] := by
 have H0 := S.old w
 have hsq := sq_le (m := min n 100) (k := 100) (by omega) (by omega)
 refine enter 13 Try.func36 rfl rfl rfl ?_
 refine g_weak [(0, .int .i64 n)] ⟨rfl, trivial⟩ ?_
 refine w_s ?_
 refine w_a ?_
 refine w_e ?_
 refine g_seq ?_
 refine w_s ?_
 refine w_m ?_
 refine w_b ?_
 refine w_e ?_
 by_cases hb1 : (n : Int) = 0
 ·
  refine g_cond_t rfl (decide_eq_true hb1) ?_
  refine w_s ?_
  refine w_a ?_
  refine w_e ?_
  refine g_ret ?_
  refine g_then_ret ?_
  refine fin_ret [.tmp 2] [.int .i64 0] rfl ⟨rfl, trivial⟩ ?_
  exact ⟨by simp only [waitS, tupled, if_pos hb1], H0.mask [true]⟩
 ·
  refine g_cond_f rfl (decide_eq_false hb1) ?_
  refine g_skip ?_
  refine g_then ?_
  refine w_s ?_
  refine w_m ?_
  refine w_v (v := .int .i64 (min n 100)) (x_min rfl rfl rfl) ?_
  refine w_a ?_
  refine w_e ?_
  refine w_s ?_
  refine w_m ?_
  refine w_b (v := .int .i64 (5000 * (min n 100))) (hb := (b_mul (w64 (by omega)))) ?_
  refine w_m ?_
  refine w_b (v := .int .i64 ((5000 * (min n 100)) * (min n 100))) (hb := (b_mul (w64 (by omega)))) ?_
  refine w_b (v := .int .i64 (5000 + ((5000 * (min n 100)) * (min n 100)))) (hb := (b_add (w64 (by omega)))) ?_
  refine w_v (v := .int .i64 (min (5000 + ((5000 * (min n 100)) * (min n 100))) 3600000)) (x_min rfl rfl rfl) ?_
  refine w_a ?_
  refine w_e ?_
  refine g_ret ?_
  refine fin_ret [.tmp 2] [.int .i64 (min (5000 + ((5000 * (min n 100)) * (min n 100))) 3600000)] rfl ⟨rfl, trivial⟩ ?_
  exact ⟨by simp only [waitS, tupled, if_neg hb1], H0.mask [true]⟩
set_option maxRecDepth 20000 in
set_option maxHeartbeats 4000000 in
theorem wait_r (n : Int) (h0 : 0 ≤ n) (h1 : n ≤ 1000000) (w : World) : Calls Try.prog 13 #[.int .i64 n] w fun e w' => e = .returned (.int .i64 (waitS n)) ∧ S w' [Old w no] := by
 have H0 := S.old w
 refine enter 15 Try.func13 rfl rfl rfl ?_
 refine g_weak [(0, .int .i64 n)] ⟨rfl, trivial⟩ ?_
 refine w_s ?_
 refine w_a ?_
 refine w_e ?_
 refine g_seq ?_
 refine g_block ?_
 refine w_s ?_
 refine w_m ?_
 refine w_b ?_
 refine w_a ?_
 refine w_e ?_
 by_cases hb1 : (n : Int) = 0
 ·
  refine g_cond_t rfl (decide_eq_true hb1) ?_
  refine w_s ?_
  refine w_a ?_
  refine w_e ?_
  refine g_ret ?_
  refine g_in_ret ?_
  refine g_then_ret ?_
  refine fin_ret [.tmp 2] [.int .i64 0] rfl ⟨rfl, trivial⟩ ?_
  exact ⟨by rw [show waitS n = 0 from if_pos hb1]; rfl, H0.mask [true]⟩
 ·
  refine g_cond_f rfl (decide_eq_false hb1) ?_
  refine w_s ?_
  refine w_m ?_
  refine w_b ?_
  refine w_a ?_
  refine w_e ?_
  by_cases hb2 : (30 : Int) < n
  ·
   refine g_cond_t rfl (decide_eq_true hb2) ?_
   refine w_s ?_
   refine w_a ?_
   refine w_e ?_
   refine g_ret ?_
   refine g_in_ret ?_
   refine g_then_ret ?_
   refine fin_ret [.tmp 2] [.int .i64 3600000] rfl ⟨rfl, trivial⟩ ?_
   exact ⟨by rw [waitS_big hb2]; rfl, H0.mask [true]⟩
  ·
   have hsq := sq_le (m := n) (k := 30) (by omega) (by omega)
   refine g_cond_f rfl (decide_eq_false hb2) ?_
   refine g_skip ?_
   refine g_in ?_
   refine g_then ?_
   refine w_s ?_
   refine w_m ?_
   refine w_b (v := .int .i64 (5000 * n)) (hb := (b_mul (w64 (by omega)))) ?_
   refine w_m ?_
   refine w_b (v := .int .i64 ((5000 * n) * n)) (hb := (b_mul (w64 (by omega)))) ?_
   refine w_b (v := .int .i64 (5000 + ((5000 * n) * n))) (hb := (b_add (w64 (by omega)))) ?_
   refine w_v (v := .int .i64 (min (5000 + ((5000 * n) * n)) 3600000)) (x_min rfl rfl rfl) ?_
   refine w_a ?_
   refine w_e ?_
   refine g_weak [(2, .int .i64 (min (5000 + ((5000 * n) * n)) 3600000))] ⟨rfl, trivial⟩ ?_
   refine g_ret ?_
   refine fin_ret [.tmp 2] [.int .i64 (min (5000 + ((5000 * n) * n)) 3600000)] rfl ⟨rfl, trivial⟩ ?_
   exact ⟨by rw [waitS_small (by omega) (by omega)]; rfl, H0.mask [true]⟩
set_option maxRecDepth 20000 in
set_option maxHeartbeats 4000000 in
theorem Wait_t (n : Int) (h0 : 0 ≤ n) (h1 : n ≤ 1000000) (w : World) : Calls Try.prog 24 #[.int .i64 n] w fun e w' => e = .returned (.tuple #[.int .i64 (waitS n), .int .i64 0]) ∧ S w' [Old w no] := by
 have H0 := S.old w
 refine enter 8 Try.func24 rfl rfl rfl ?_
 refine g_weak [(0, .int .i64 n)] ⟨rfl, trivial⟩ ?_
 refine w_s ?_
 refine w_r2 ?_
 refine w_e ?_
 refine g_seq ?_
 refine w_s ?_
 refine w_m ?_
 refine w_b ?_
 refine w_e ?_
 by_cases hb1 : (n : Int) < 0
 ·
  refine g_cond_t rfl (decide_eq_true hb1) ?_
  refine w_s ?_
  refine w_r2 ?_
  refine w_e ?_
  refine g_ret ?_
  refine g_then_ret ?_
  refine fin_ret [.tmp 2, .tmp 3] [.int .i64 0, .int .i64 7] rfl ⟨rfl, rfl, trivial⟩ ?_
  omega
 ·
  refine g_cond_f rfl (decide_eq_false hb1) ?_
  refine g_skip ?_
  refine g_then ?_
  refine w_s ?_
  refine w_m ?_
  refine l_of (s_call0 H0 (wt0 rfl) (x_call' rfl rfl cl36) (wait_t _ (by omega) (by omega) _) rfl rfl ?_)
  intro wq2 H3
  refine w_r2 ?_
  refine w_e ?_
  refine g_ret ?_
  refine fin_ret [.tmp 2, .tmp 3] [.int .i64 ((waitS n)), .int .i64 0] rfl ⟨rfl, rfl, trivial⟩ ?_
  exact ⟨rfl, H3.mask [true]⟩
set_option maxRecDepth 20000 in
set_option maxHeartbeats 4000000 in
theorem awake_s  (w : World) : Calls Try.prog 8 #[] w fun e w' => e = .returned (.bool true) ∧ S w' [Old w no] := by
 have H0 := S.old w
 refine enter 41 Try.func8 rfl rfl rfl ?_
 refine g_weak [] trivial ?_
 refine w_s ?_
 refine w_a ?_
 refine w_e ?_
 refine w_s ?_
 refine l_of (s_call0 H0 (wt0 rfl) (x_call' rfl rfl cl24) (Wait_t _ (by decide) (by decide) _) rfl rfl ?_)
 intro wq1 H2
 refine w_r5 ?_
 refine w_e ?_
 refine w_s ?_
 refine l_of (s_call0 H2 (wt0 rfl) (x_call' rfl rfl cl24) (Wait_t _ (by decide) (by decide) _) rfl rfl ?_)
 intro wq3 H4
 refine w_r5 ?_
 refine w_e ?_
 refine w_s ?_
 refine l_of (s_call0 H4 (wt0 rfl) (x_call' rfl rfl cl24) (Wait_t _ (by decide) (by decide) _) rfl rfl ?_)
 intro wq5 H6
 refine w_r5 ?_
 refine w_e ?_
 refine g_weak [(1, .int .i64 10000), (2, .int .i64 0), (3, .int .i64 50000), (4, .int .i64 0), (5, .int .i64 3600000), (6, .int .i64 0)] ⟨rfl, rfl, rfl, rfl, rfl, rfl, trivial⟩ ?_
 refine w_s ?_
 refine w_m ?_
 refine w_b ?_
 refine w_m ?_
 refine w_g (decide_eq_true rfl) xm ?_
 refine w_g (decide_eq_true rfl) (x_bin rfl rfl rfl b_eql) ?_
 refine w_v (v := .bool (decide ((0 : Int) = 0))) (x_pick_t rfl rfl (decide_eq_true rfl) rfl) ?_
 refine w_m ?_
 refine w_g (decide_eq_true rfl) xm ?_
 refine w_g (decide_eq_true rfl) (x_bin rfl rfl rfl b_eql) ?_
 refine w_v (v := .bool (decide ((0 : Int) = 0))) (x_pick_t rfl rfl (decide_eq_true rfl) rfl) ?_
 refine w_m ?_
 refine w_g (decide_eq_true rfl) xm ?_
 refine w_g (decide_eq_true rfl) (x_bin rfl rfl rfl b_eql) ?_
 refine w_v (v := .bool (decide ((10000 : Int) = 10000))) (x_pick_t rfl rfl (decide_eq_true rfl) rfl) ?_
 refine w_m ?_
 refine w_g (decide_eq_true rfl) xm ?_
 refine w_g (decide_eq_true rfl) (x_bin rfl rfl rfl b_eql) ?_
 refine w_v (v := .bool (decide ((50000 : Int) = 50000))) (x_pick_t rfl rfl (decide_eq_true rfl) rfl) ?_
 refine w_m ?_
 refine w_g (decide_eq_true rfl) xm ?_
 refine w_g (decide_eq_true rfl) (x_bin rfl rfl rfl b_eql) ?_
 refine w_v (v := .bool (decide ((3600000 : Int) = 3600000))) (x_pick_t rfl rfl (decide_eq_true rfl) rfl) ?_
 refine w_a ?_
 refine w_e ?_
 refine g_weak [(0, .bool (decide ((3600000 : Int) = 3600000)))] ⟨rfl, trivial⟩ ?_
 refine g_ret ?_
 refine fin_ret [.tmp 0] [.bool (decide ((3600000 : Int) = 3600000))] rfl ⟨rfl, trivial⟩ ?_
 exact ⟨rfl, H6.mask [true]⟩
end Go.Proofs.Ytibdlnjnomikjaa
