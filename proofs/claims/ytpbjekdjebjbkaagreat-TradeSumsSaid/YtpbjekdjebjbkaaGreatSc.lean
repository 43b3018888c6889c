import Derived.Test.YtpbjekdjebjbkaaGreatFk
import Derived.Test.YtpbjekdjebjbkaaGreatSp
import Derived.Test.YtpbjekdjebjbkaaGreatProg
set_option linter.unusedSimpArgs false
set_option linter.unusedVariables false
namespace Go.Proofs.YtpbjekdjebjbkaaGreat
open Go.RowKit

theorem cl143 : callable Tryz.prog 143 = true := by kernel_rfl
theorem sz102 : szO Tryz.prog 102 = some 10 := by kernel_rfl
theorem ex_cast {P : Program} {N : Nat} {f : Fr} {ds : List Deferred} {w w' : World} {o : Oper} {v v' : Value} (h : Ex P N f ds o w v w') (e : v = v') : Ex P N f ds o w v' w' := e ▸ h
set_option maxRecDepth 20000 in
set_option maxHeartbeats 4000000 in
theorem swR_s {β : Type} (d : β) (ev : β → Value) (cs : β → Array Value) (hcs : ∀ x, ev x = .agg (cs x)) (hsz : ∀ x, (ev x).cells.size = 10) (ho : ∀ x, (ev x).cells.toList.all (·.oneCell') = true) (z : List β) (nn : Nat) (hz : z.length = nn) (p : Option Addr) (cc : Nat) (hm : nn ≤ 1099511627776) (a b n : Nat) (ha : a + n ≤ nn) (hb : b + n ≤ nn) (fv : Value) (w : World) (HS : S w [Rw 102 10 p nn cc (mV ev z)]) : Calls Tryz.prog 143 #[.slice p nn cc, .int .i64 ((a : Int)), .int .i64 ((b : Int)), .int .i64 ((n : Int)), fv] w fun e w' => e = .returned (.tuple #[]) ∧ S w' ([Rw 102 10 p nn cc (mV ev (swR d a b n z))] ++ [Old w (fps [Rw 102 10 p nn cc (mV ev z)])]) := by
 have H0 := HS.beginI
 refine enter 38 Tryz.func143 rfl rfl rfl ?_
 refine g_weak [(0, .slice p nn cc), (1, .int .i64 ((a : Int))), (2, .int .i64 ((b : Int))), (3, .int .i64 ((n : Int))), (4, fv)] ⟨rfl, rfl, rfl, rfl, rfl, trivial⟩ ?_
 refine w_s ?_
 refine w_a ?_
 refine w_e ?_
 refine g_block ?_
 refine g_loop (ι := Nat × List β) (fun (i, cur) => [(0, .slice p nn cc), (1, .int .i64 ((a : Int))), (2, .int .i64 ((b : Int))), (3, .int .i64 ((n : Int))), (10, .int .i64 ((i : Int)))]) (fun (i, cur) wx => (i ≤ n) ∧ (cur.length = nn) ∧ (swr d a b (n - i) i cur = swR d a b n z) ∧ S wx [Rw 102 10 p nn cc (mV ev cur), Old w (fps [Rw 102 10 p nn cc (mV ev z)])]) (fun (i, cur) => n - i) (0, z) ⟨rfl, rfl, rfl, rfl, rfl, trivial⟩ ⟨Nat.zero_le _, hz, rfl, (H0.takes [0, 1] (by decide))⟩ ?_
 rintro ⟨i, cur⟩ wq1 ⟨hi, hcl, hR, H2⟩
 refine g_weak [(0, .slice p nn cc), (1, .int .i64 ((a : Int))), (2, .int .i64 ((b : Int))), (3, .int .i64 ((n : Int))), (10, .int .i64 ((i : Int)))] ⟨rfl, rfl, rfl, rfl, rfl, trivial⟩ ?_
 refine g_seq ?_
 refine w_s ?_
 refine w_r2 ?_
 refine w_b ?_
 refine w_e ?_
 by_cases hb3 : ((i : Int) : Int) < (n : Int)
 ·
  refine g_cond_t rfl (decide_eq_true hb3) ?_
  refine g_skip ?_
  refine g_then ?_
  refine g_seq ?_
  refine g_block ?_
  refine g_anyY [] (fun wx => S wx [Rw 102 10 p nn cc (mV ev cur), Old w (fps [Rw 102 10 p nn cc (mV ev z)])]) (fun wx => S wx [Old w (fps [Rw 102 10 p nn cc (mV ev z)])]) [21, 23] (by kernel_rfl) H2 (fun wq4 H5 => ?_)
  refine w_y 0 rfl (wt0 rfl) rfl rfl rfl (by kernel_rfl) (fun _ => x_move rfl rfl) ?_
  refine w_y 1 rfl (wt0 rfl) rfl rfl rfl (by kernel_rfl) (fun _ => x_move rfl rfl) ?_
  refine w_y 2 rfl (wt0 rfl) rfl rfl rfl (by kernel_rfl) (fun _ => x_move rfl rfl) ?_
  refine w_y (v := .int .i64 (((a + i : Nat) : Int))) 3 rfl (wt0 rfl) rfl rfl rfl (by kernel_rfl) (fun _ => x_bin rfl rfl rfl (b_addN (a := a) (b := i) (by omega))) ?_
  refine w_y 4 rfl (wt0 rfl) rfl rfl rfl (by kernel_rfl) (fun _ => x_move rfl rfl) ?_
  refine w_y 5 rfl (wt0 rfl) rfl rfl rfl (by kernel_rfl) (fun _ => x_move rfl rfl) ?_
  refine w_y 6 rfl (wt0 rfl) rfl rfl rfl (by kernel_rfl) (fun _ => x_move rfl rfl) ?_
  refine w_y (v := .int .i64 (((b + i : Nat) : Int))) 7 rfl (wt0 rfl) rfl rfl rfl (by kernel_rfl) (fun _ => x_bin rfl rfl rfl (b_addN (a := b) (b := i) (by omega))) ?_
  refine w_y 8 rfl (wt0 rfl) rfl rfl rfl (by kernel_rfl) (fun _ => x_move rfl rfl) ?_
  refine w_y 9 rfl (wt0 rfl) rfl rfl rfl (by kernel_rfl) (fun _ => x_move rfl rfl) ?_
  refine w_y 10 rfl (wt0 rfl) rfl rfl rfl (by kernel_rfl) (fun _ => x_move rfl rfl) ?_
  refine w_y (v := .int .i64 (((b + i : Nat) : Int))) 11 rfl (wt0 rfl) rfl rfl rfl (by kernel_rfl) (fun _ => x_bin rfl rfl rfl (b_addN (a := b) (b := i) (by omega))) ?_
  refine w_y (v := .pointer ((p).map fun q => q.add ((b + i) * 10))) 12 rfl (wt0 rfl) rfl rfl rfl (by kernel_rfl) (fun _ => x_idxP (b + i) (H5.rwSome (k := 0) rfl (by omega)) rfl rfl rfl Tryz.underlying98 sz102 (by omega)) ?_
  refine y_take (v := ev (cur.getD (b + i) d)) 13 rfl (wt0 rfl) rfl rfl rfl (by kernel_rfl) (by kernel_rfl) (by kernel_rfl) (by kernel_rfl) (by kernel_rfl) H5 (fun wx H => ex_cast (x_loadRA (vs := (ev (cur.getD (b + i) d)).cells.toList) (b + i) (H.rwReads (k := 0) rfl) (by omega) rfl rfl Tryz.underlying102 rfl sz102 (by rw [Array.length_toList]; exact hsz _) (mV_atR hsz (by omega))) (by rw [hcs]; rfl)) ?_
  refine w_y 14 rfl (wt0 rfl) rfl rfl rfl (by kernel_rfl) (fun _ => x_move rfl rfl) ?_
  refine w_y 15 rfl (wt0 rfl) rfl rfl rfl (by kernel_rfl) (fun _ => x_move rfl rfl) ?_
  refine w_y 16 rfl (wt0 rfl) rfl rfl rfl (by kernel_rfl) (fun _ => x_move rfl rfl) ?_
  refine w_y (v := .int .i64 (((a + i : Nat) : Int))) 17 rfl (wt0 rfl) rfl rfl rfl (by kernel_rfl) (fun _ => x_bin rfl rfl rfl (b_addN (a := a) (b := i) (by omega))) ?_
  refine w_y (v := .pointer ((p).map fun q => q.add ((a + i) * 10))) 18 rfl (wt0 rfl) rfl rfl rfl (by kernel_rfl) (fun _ => x_idxP (a + i) (H5.rwSome (k := 0) rfl (by omega)) rfl rfl rfl Tryz.underlying98 sz102 (by omega)) ?_
  refine y_take (v := ev (cur.getD (a + i) d)) 19 rfl (wt0 rfl) rfl rfl rfl (by kernel_rfl) (by kernel_rfl) (by kernel_rfl) (by kernel_rfl) (by kernel_rfl) H5 (fun wx H => ex_cast (x_loadRA (vs := (ev (cur.getD (a + i) d)).cells.toList) (a + i) (H.rwReads (k := 0) rfl) (by omega) rfl rfl Tryz.underlying102 rfl sz102 (by rw [Array.length_toList]; exact hsz _) (mV_atR hsz (by omega))) (by rw [hcs]; rfl)) ?_
  refine w_y (v := .pointer ((p).map fun q => q.add ((a + i) * 10))) 20 rfl (wt0 rfl) rfl rfl rfl (by kernel_rfl) (fun _ => x_idxP (a + i) (H5.rwSome (k := 0) rfl (by omega)) rfl rfl rfl Tryz.underlying98 sz102 (by omega)) ?_
  refine y_one (i := 21) (by kernel_rfl) rfl ?_
  refine s_storeW (j := (a + i)) H5 0 (wt0 rfl) rfl rfl rfl rfl rfl (by rw [hsz]; exact sz102) (hsz _) (ho _) (by omega) ?_
  intro wq6 H7
  rw [mV_set hsz (cur.getD (b + i) d) (by first | omega | (simp only [List.length_set]; omega))] at H7
  replace H7 : S wq6 [Rw 102 10 p nn cc (mV ev (cur.set (a + i) (cur.getD (b + i) d))), Old w (fps [Rw 102 10 p nn cc (mV ev z)])] := H7
  refine y_kt rfl (H7.mask [false, true]) ?_
  refine w_y (v := .pointer ((p).map fun q => q.add ((b + i) * 10))) 22 rfl (wt0 rfl) rfl rfl rfl (by kernel_rfl) (fun _ => x_idxP (b + i) (H7.rwSome (k := 0) rfl (by omega)) rfl rfl rfl Tryz.underlying98 sz102 (by omega)) ?_
  refine y_one (i := 23) (by kernel_rfl) rfl ?_
  refine s_storeW (j := (b + i)) H7 0 (wt0 rfl) rfl rfl rfl rfl rfl (by rw [hsz]; exact sz102) (hsz _) (ho _) (by omega) ?_
  intro wq8 H9
  rw [mV_set hsz (cur.getD (a + i) d) (by first | omega | (simp only [List.length_set]; omega))] at H9
  replace H9 : S wq8 [Rw 102 10 p nn cc (mV ev ((cur.set (a + i) (cur.getD (b + i) d)).set (b + i) (cur.getD (a + i) d))), Old w (fps [Rw 102 10 p nn cc (mV ev z)])] := H9
  refine y_kt rfl (H9.mask [false, true]) ?_
  refine y_done (by kernel_rfl) ?_
  refine g_in ?_
  refine g_then ?_
  refine g_weak [(0, .slice p nn cc), (1, .int .i64 ((a : Int))), (2, .int .i64 ((b : Int))), (3, .int .i64 ((n : Int))), (10, .int .i64 ((i : Int)))] ⟨rfl, rfl, rfl, rfl, rfl, trivial⟩ ?_
  refine g_region ?_
  refine w_m ?_
  refine w_b (v := .int .i64 (((i + 1 : Nat) : Int))) (hb := (b_addN (a := i) (b := 1) (by omega))) ?_
  refine w_a ?_
  refine w_e ?_
  refine g_round (i := (i, cur)) ((i + 1), ((cur.set (a + i) (cur.getD (b + i) d)).set (b + i) (cur.getD (a + i) d))) ?_ ?_ ?_
  · exact ⟨rfl, rfl, rfl, rfl, rfl, trivial⟩
  · exact ⟨by omega, (by simp only [List.length_set]; exact hcl), ((swr_go (by omega)).symm.trans hR), (H9.takes [0, 1] (by decide))⟩
  · (try dsimp only); omega
 ·
  refine g_cond_f rfl (decide_eq_false hb3) ?_
  refine g_exit ?_
  refine g_then_exit ?_
  refine g_then_exit ?_
  refine g_in_hit ?_
  refine fin_end [] [] rfl trivial ?_
  exact ⟨rfl, by rw [← hR, swr_end (by omega)]; exact (H2.takes [0, 1] (by decide))⟩
theorem swr_len {β : Type} (d : β) (a b : Nat) : ∀ (n i : Nat) (l : List β), (swr d a b n i l).length = l.length
  | 0, _, _ => rfl
  | n + 1, i, l => by unfold swr; rw [swr_len d a b n, swp_len]
theorem swR_len {β : Type} {d : β} {a b n : Nat} {l : List β} : (swR d a b n l).length = l.length := swr_len d a b n 0 l
theorem rotS_gt {β : Type} {d : β} {m n i j : Nat} {l : List β} (h : j < i) (hj : 1 ≤ j) (hn : i + j ≤ n + 2) : rotS d m n i j l = rotS d m (n - 1) (i - j) j (swR d (m - i) m j l) := by
  obtain ⟨k, rfl⟩ : ∃ k, n = k + 1 := ⟨n - 1, by omega⟩
  conv => lhs; unfold rotS
  rw [if_neg (by omega), if_pos h]; rfl
theorem rotS_lt {β : Type} {d : β} {m n i j : Nat} {l : List β} (h : i < j) (hi : 1 ≤ i) (hn : i + j ≤ n + 2) : rotS d m n i j l = rotS d m (n - 1) i (j - i) (swR d (m - i) (m + j - i) i l) := by
  obtain ⟨k, rfl⟩ : ∃ k, n = k + 1 := ⟨n - 1, by omega⟩
  conv => lhs; unfold rotS
  rw [if_neg (by omega), if_neg (by omega)]; rfl
theorem rotS_eq {β : Type} {d : β} {m n i : Nat} {l : List β} : rotS d m n i i l = swR d (m - i) m i l := by
  cases n with
  | zero => rfl
  | succ n => unfold rotS; rw [if_pos rfl]
set_option maxRecDepth 20000 in
set_option maxHeartbeats 4000000 in
theorem rotS_s {β : Type} (d : β) (ev : β → Value) (cs : β → Array Value) (hcs : ∀ x, ev x = .agg (cs x)) (hsz : ∀ x, (ev x).cells.size = 10) (ho : ∀ x, (ev x).cells.toList.all (·.oneCell') = true) (z : List β) (nn : Nat) (hz : z.length = nn) (p : Option Addr) (cc : Nat) (hm : nn ≤ 1099511627776) (a m b : Nat) (ham : a < m) (hmb : m < b) (hb : b ≤ nn) (fv : Value) (w : World) (HS : S w [Rw 102 10 p nn cc (mV ev z)]) : Calls Tryz.prog 140 #[.slice p nn cc, .int .i64 ((a : Int)), .int .i64 ((m : Int)), .int .i64 ((b : Int)), fv] w fun e w' => e = .returned (.tuple #[]) ∧ S w' ([Rw 102 10 p nn cc (mV ev (rotS d m (b - a) (m - a) (b - m) z))] ++ [Old w (fps [Rw 102 10 p nn cc (mV ev z)])]) := by
 have H0 := HS.beginI
 refine enter 58 Tryz.func140 rfl rfl rfl ?_
 refine g_weak [(0, .slice p nn cc), (1, .int .i64 ((a : Int))), (2, .int .i64 ((m : Int))), (3, .int .i64 ((b : Int))), (4, fv)] ⟨rfl, rfl, rfl, rfl, rfl, trivial⟩ ?_
 refine w_s ?_
 refine w_r2 ?_
 refine w_b (v := .int .i64 (((m - a : Nat) : Int))) (hb := (b_subN (a := m) (b := a) (by omega))) ?_
 refine w_a ?_
 refine w_e ?_
 refine w_s ?_
 refine w_r2 ?_
 refine w_b (v := .int .i64 (((b - m : Nat) : Int))) (hb := (b_subN (a := b) (b := m) (by omega))) ?_
 refine w_a ?_
 refine w_e ?_
 refine g_seq ?_
 refine g_block ?_
 refine g_loop (ι := Nat × Nat × Nat × List β) (fun (n, i, j, cur) => [(0, .slice p nn cc), (2, .int .i64 ((m : Int))), (4, fv), (10, .int .i64 ((i : Int))), (11, .int .i64 ((j : Int)))]) (fun (n, i, j, cur) wx => (1 ≤ i ∧ 1 ≤ j ∧ a + i ≤ m ∧ m + j ≤ b) ∧ (i + j ≤ n + 2) ∧ (cur.length = nn) ∧ (rotS d m n i j cur = rotS d m (b - a) (m - a) (b - m) z) ∧ S wx [Rw 102 10 p nn cc (mV ev cur), Old w (fps [Rw 102 10 p nn cc (mV ev z)])]) (fun (n, i, j, cur) => i + j) ((b - a), (m - a), (b - m), z) ⟨rfl, rfl, rfl, rfl, rfl, trivial⟩ ⟨(by omega), (by omega), hz, rfl, (H0.takes [0, 1] (by decide))⟩ ?_
 rintro ⟨n, i, j, cur⟩ wq1 ⟨hij, hn, hcl, hR, H2⟩
 refine g_weak [(0, .slice p nn cc), (2, .int .i64 ((m : Int))), (4, fv), (10, .int .i64 ((i : Int))), (11, .int .i64 ((j : Int)))] ⟨rfl, rfl, rfl, rfl, rfl, trivial⟩ ?_
 refine g_seq ?_
 refine w_s ?_
 refine w_r2 ?_
 refine w_b (v := .bool (!decide (((i : Int) : Int) = (j : Int)))) (hb := b_neq) ?_
 refine w_e ?_
 by_cases hb3 : ((i : Int) : Int) = (j : Int)
 ·
  refine g_cond_f rfl (nf hb3) ?_
  refine g_exit ?_
  refine g_then_exit ?_
  refine g_then_exit ?_
  refine g_in_hit ?_
  refine g_then ?_
  refine g_region ?_
  refine w_r3 ?_
  refine w_b (v := .int .i64 (((m - i : Nat) : Int))) (hb := (b_subN (a := m) (b := i) (by omega))) ?_
  refine w_r3 ?_
  refine l_of (s_call (wt0 rfl) (x_call' rfl rfl cl143) (swR_s d ev cs hcs hsz ho cur nn hcl p cc hm (m - i) m i (by omega) (by omega) (fv) _ (H2.takes [0] (by decide))) ?_)
  rintro _ wq4 ⟨rfl, H5⟩
  replace H5 : S wq4 [Rw 102 10 p nn cc (mV ev (swR d (m - i) m i cur)), Old w (fps [Rw 102 10 p nn cc (mV ev z)])] := by have h := H2.absorbI [0] H5; exact h
  refine b_ret rfl rfl ?_
  refine g_nil ?_
  refine fin_end [] [] rfl trivial ?_
  have hij2 : i = j := by omega
  subst hij2
  exact ⟨rfl, by rw [← hR, rotS_eq]; exact (H5.takes [0, 1] (by decide))⟩
 ·
  refine g_cond_t rfl (nt hb3) ?_
  refine g_skip ?_
  refine g_then ?_
  refine g_block ?_
  refine w_s ?_
  refine w_r2 ?_
  refine w_b ?_
  refine w_e ?_
  by_cases hb6 : ((j : Int) : Int) < (i : Int)
  ·
   refine g_cond_t rfl (decide_eq_true hb6) ?_
   refine w_s ?_
   refine w_r3 ?_
   refine w_b (v := .int .i64 (((m - i : Nat) : Int))) (hb := (b_subN (a := m) (b := i) (by omega))) ?_
   refine w_r3 ?_
   refine l_of (s_call (wt0 rfl) (x_call' rfl rfl cl143) (swR_s d ev cs hcs hsz ho cur nn hcl p cc hm (m - i) m j (by omega) (by omega) (fv) _ (H2.takes [0] (by decide))) ?_)
   rintro _ wq7 ⟨rfl, H8⟩
   replace H8 : S wq7 [Rw 102 10 p nn cc (mV ev (swR d (m - i) m j cur)), Old w (fps [Rw 102 10 p nn cc (mV ev z)])] := by have h := H2.absorbI [0] H8; exact h
   refine b_ret rfl rfl ?_
   refine w_e ?_
   refine g_weak [(0, .slice p nn cc), (2, .int .i64 ((m : Int))), (4, fv), (10, .int .i64 ((i : Int))), (11, .int .i64 ((j : Int)))] ⟨rfl, rfl, rfl, rfl, rfl, trivial⟩ ?_
   refine g_region ?_
   refine w_r2 ?_
   refine w_b (v := .int .i64 (((i - j : Nat) : Int))) (hb := (b_subN (a := i) (b := j) (by omega))) ?_
   refine w_a ?_
   refine g_nil ?_
   refine g_in ?_
   refine g_then ?_
   refine g_round (i := (n, i, j, cur)) ((n - 1), (i - j), j, (swR d (m - i) m j cur)) ?_ ?_ ?_
   · exact ⟨rfl, rfl, rfl, rfl, rfl, trivial⟩
   · exact ⟨(by omega), (by omega), (by rw [swR_len]; exact hcl), ((rotS_gt (by omega) (by omega) (by omega)).symm.trans hR), (H8.takes [0, 1] (by decide))⟩
   · (try dsimp only); omega
  ·
   refine g_cond_f rfl (decide_eq_false hb6) ?_
   refine w_s ?_
   refine w_r3 ?_
   refine w_b (v := .int .i64 (((m - i : Nat) : Int))) (hb := (b_subN (a := m) (b := i) (by omega))) ?_
   refine w_r2 ?_
   refine w_b (v := .int .i64 (((m + j : Nat) : Int))) (hb := (b_addN (a := m) (b := j) (by omega))) ?_
   refine w_m ?_
   refine w_b (v := .int .i64 (((m + j - i : Nat) : Int))) (hb := (b_subN (a := m + j) (b := i) (by omega))) ?_
   refine w_r2 ?_
   refine l_of (s_call (wt0 rfl) (x_call' rfl rfl cl143) (swR_s d ev cs hcs hsz ho cur nn hcl p cc hm (m - i) (m + j - i) i (by omega) (by omega) (fv) _ (H2.takes [0] (by decide))) ?_)
   rintro _ wq9 ⟨rfl, H10⟩
   replace H10 : S wq9 [Rw 102 10 p nn cc (mV ev (swR d (m - i) (m + j - i) i cur)), Old w (fps [Rw 102 10 p nn cc (mV ev z)])] := by have h := H2.absorbI [0] H10; exact h
   refine b_ret rfl rfl ?_
   refine w_e ?_
   refine g_weak [(0, .slice p nn cc), (2, .int .i64 ((m : Int))), (4, fv), (10, .int .i64 ((i : Int))), (11, .int .i64 ((j : Int)))] ⟨rfl, rfl, rfl, rfl, rfl, trivial⟩ ?_
   refine g_region ?_
   refine w_r2 ?_
   refine w_b (v := .int .i64 (((j - i : Nat) : Int))) (hb := (b_subN (a := j) (b := i) (by omega))) ?_
   refine w_a ?_
   refine g_nil ?_
   refine g_in ?_
   refine g_then ?_
   refine g_round (i := (n, i, j, cur)) ((n - 1), i, (j - i), (swR d (m - i) (m + j - i) i cur)) ?_ ?_ ?_
   · exact ⟨rfl, rfl, rfl, rfl, rfl, trivial⟩
   · exact ⟨(by omega), (by omega), (by rw [swR_len]; exact hcl), ((rotS_lt (by omega) (by omega) (by omega)).symm.trans hR), (H10.takes [0, 1] (by decide))⟩
   · (try dsimp only); omega
set_option maxRecDepth 20000 in
set_option maxHeartbeats 4000000 in
theorem insS_s {β : Type} (d : β) (ev : β → Value) (cs : β → Array Value) (hcs : ∀ x, ev x = .agg (cs x)) (hsz : ∀ x, (ev x).cells.size = 10) (ho : ∀ x, (ev x).cells.toList.all (·.oneCell') = true) (z : List β) (nn : Nat) (hz : z.length = nn) (p : Option Addr) (cc : Nat) (hm : nn ≤ 1099511627776) (c : β → β → Int) (gc : Nat) (fi ca : Array Value) (X : Item) (hc : Cmps Tryz.prog gc fi ca X ev c z) (a b : Nat) (hab : a ≤ b) (hb : b ≤ nn) (w : World) (HS : S w [Rw 102 10 p nn cc (mV ev z), X]) : Calls Tryz.prog 131 #[.slice p nn cc, .int .i64 ((a : Int)), .int .i64 ((b : Int)), .func (.func gc) fi ca] w fun e w' => e = .returned (.tuple #[]) ∧ S w' ([Rw 102 10 p nn cc (mV ev (insS d c a b z)), X] ++ [Old w (fps [Rw 102 10 p nn cc (mV ev z), X])]) := by
 have H0 := HS.beginI
 refine enter 53 Tryz.func131 rfl rfl rfl ?_
 refine g_weak [(0, .slice p nn cc), (1, .int .i64 ((a : Int))), (2, .int .i64 ((b : Int))), (3, .func (.func gc) fi ca)] ⟨rfl, rfl, rfl, rfl, trivial⟩ ?_
 refine w_s ?_
 refine w_m ?_
 refine w_b (v := .int .i64 (((a + 1 : Nat) : Int))) (hb := (b_addN (a := a) (b := 1) (by omega))) ?_
 refine w_a ?_
 refine w_e ?_
 refine g_block ?_
 refine g_loop (ι := Nat × List β) (fun (i, cur) => [(0, .slice p nn cc), (1, .int .i64 ((a : Int))), (2, .int .i64 ((b : Int))), (3, .func (.func gc) fi ca), (8, .int .i64 ((i : Int)))]) (fun (i, cur) wx => (a + 1 ≤ i ∧ i ≤ max b (a + 1)) ∧ (cur.length = nn) ∧ (cur.Perm z) ∧ (insOut d c a (b - i) i cur = insS d c a b z) ∧ S wx [Rw 102 10 p nn cc (mV ev cur), X, Old w (fps [Rw 102 10 p nn cc (mV ev z), X])]) (fun (i, cur) => b - i) ((a + 1), z) ⟨rfl, rfl, rfl, rfl, rfl, trivial⟩ ⟨(by omega), hz, (.refl _), rfl, (H0.takes [0, 1, 2] (by decide))⟩ ?_
 rintro ⟨i, cur⟩ wq1 ⟨hi, hcl, hpp, hR, H2⟩
 refine g_weak [(0, .slice p nn cc), (1, .int .i64 ((a : Int))), (2, .int .i64 ((b : Int))), (3, .func (.func gc) fi ca), (8, .int .i64 ((i : Int)))] ⟨rfl, rfl, rfl, rfl, rfl, trivial⟩ ?_
 refine g_seq ?_
 refine w_s ?_
 refine w_r2 ?_
 refine w_b ?_
 refine w_e ?_
 by_cases hb3 : ((i : Int) : Int) < (b : Int)
 ·
  refine g_cond_t rfl (decide_eq_true hb3) ?_
  refine g_skip ?_
  refine g_then ?_
  refine g_seq ?_
  refine g_block ?_
  refine w_s ?_
  refine w_r2 ?_
  refine w_e ?_
  refine g_block ?_
  refine g_loop (ι := Nat × List β) (fun (j, cur2) => [(0, .slice p nn cc), (1, .int .i64 ((a : Int))), (2, .int .i64 ((b : Int))), (3, .func (.func gc) fi ca), (8, .int .i64 ((i : Int))), (9, .int .i64 ((j : Int)))]) (fun (j, cur2) wx => (a ≤ j ∧ j ≤ i) ∧ (cur2.length = nn) ∧ (cur2.Perm z) ∧ (insIn d c a j cur2 = insIn d c a i cur) ∧ S wx [Rw 102 10 p nn cc (mV ev cur2), X, Old w (fps [Rw 102 10 p nn cc (mV ev z), X])]) (fun (j, cur2) => j) (i, cur) ⟨rfl, rfl, rfl, rfl, rfl, rfl, trivial⟩ ⟨(by omega), hcl, hpp, rfl, (H2.takes [0, 1, 2] (by decide))⟩ ?_
  rintro ⟨j, cur2⟩ wq4 ⟨hj, hcl2, hpp2, hR2, H5⟩
  refine g_weak [(0, .slice p nn cc), (1, .int .i64 ((a : Int))), (2, .int .i64 ((b : Int))), (3, .func (.func gc) fi ca), (8, .int .i64 ((i : Int))), (9, .int .i64 ((j : Int)))] ⟨rfl, rfl, rfl, rfl, rfl, rfl, trivial⟩ ?_
  have hpm : ∀ y, y ∈ cur2 → y ∈ z := fun y hy => (hpp2.mem_iff).1 hy
  refine g_seq ?_
  refine g_seq ?_
  refine g_any [] (fun wx => S wx [Rw 102 10 p nn cc (mV ev cur2), X, Old w (fps [Rw 102 10 p nn cc (mV ev z), X])]) [] (by kernel_rfl) H5 (fun wq6 H7 => ?_)
  refine w_t 0 rfl H7 (fun _ _ => xm) ?_
  refine w_t 1 rfl H7 (fun _ _ => xm) ?_
  refine w_t 2 rfl H7 (fun _ _ => x_bin rfl rfl rfl b_gtr) ?_
  refine w_t 3 rfl H7 (fun _ _ => xm) ?_
  by_cases hb8 : ((a : Int) : Int) < (j : Int)
  ·
   refine w_tg 4 rfl (decide_eq_true hb8) H7 (fun _ _ => xm) ?_
   refine w_tg 5 rfl (decide_eq_true hb8) H7 (fun _ _ => xm) ?_
   refine w_tg 6 rfl (decide_eq_true hb8) H7 (fun _ _ => xm) ?_
   refine w_tg (v := .pointer ((p).map fun q => q.add (j * 10))) 7 rfl (decide_eq_true hb8) H7 (fun _ _ => x_idxP j (H7.rwSome (k := 0) rfl (by omega)) rfl rfl rfl Tryz.underlying98 sz102 (by omega)) ?_
   refine w_tg (v := ev (cur2.getD j d)) 8 rfl (decide_eq_true hb8) H7 (fun _ H => ex_cast (x_loadRA (vs := (ev (cur2.getD j d)).cells.toList) j (H.rwReads (k := 0) rfl) (by omega) rfl rfl Tryz.underlying102 rfl sz102 (by rw [Array.length_toList]; exact hsz _) (mV_atR hsz (by omega))) (by rw [hcs]; rfl)) ?_
   refine w_tg 9 rfl (decide_eq_true hb8) H7 (fun _ _ => xm) ?_
   refine w_tg 10 rfl (decide_eq_true hb8) H7 (fun _ _ => xm) ?_
   refine w_tg (v := .int .i64 (((j - 1 : Nat) : Int))) 11 rfl (decide_eq_true hb8) H7 (fun _ _ => x_bin rfl rfl rfl (b_subN (a := j) (b := 1) (by omega))) ?_
   refine w_tg (v := .pointer ((p).map fun q => q.add ((j - 1) * 10))) 12 rfl (decide_eq_true hb8) H7 (fun _ _ => x_idxP (j - 1) (H7.rwSome (k := 0) rfl (by omega)) rfl rfl rfl Tryz.underlying98 sz102 (by omega)) ?_
   refine w_tg (v := ev (cur2.getD (j - 1) d)) 13 rfl (decide_eq_true hb8) H7 (fun _ H => ex_cast (x_loadRA (vs := (ev (cur2.getD (j - 1) d)).cells.toList) (j - 1) (H.rwReads (k := 0) rfl) (by omega) rfl rfl Tryz.underlying102 rfl sz102 (by rw [Array.length_toList]; exact hsz _) (mV_atR hsz (by omega))) (by rw [hcs]; rfl)) ?_
   refine a_one (i := 14) (by kernel_rfl) rfl ?_
   refine s_call (wt1 rfl rfl rfl rfl (decide_eq_true hb8)) (x_call rfl rfl rfl hc.ok) (hc.does _ (hpm _ (getD_mem (by omega))) _ (hpm _ (getD_mem (by omega))) _ (H7.takes [1] (by decide))) ?_
   rintro _ wq9 ⟨rfl, H10⟩
   replace H10 : S wq9 [X, Rw 102 10 p nn cc (mV ev cur2), Old w (fps [Rw 102 10 p nn cc (mV ev z), X])] := by have h := H7.absorbI [1] H10; exact h
   refine b_ret rfl rfl ?_
   refine a_k (H10.takes [1, 0, 2] (by decide)) ?_
   refine w_tg 15 rfl (decide_eq_true hb8) (H10.takes [1, 0, 2] (by decide)) (fun _ _ => x_bin rfl rfl rfl b_lss) ?_
   refine w_t (v := .bool (decide (((c (cur2.getD j d) (cur2.getD (j - 1) d)) : Int) < 0))) 16 rfl (H10.takes [1, 0, 2] (by decide)) (fun _ _ => x_pick_t rfl rfl (decide_eq_true hb8) rfl) ?_
   refine a_done (by kernel_rfl) ?_
   refine g_then ?_
   by_cases hb11 : ((c (cur2.getD j d) (cur2.getD (j - 1) d)) : Int) < 0
   ·
    refine g_cond_t rfl (decide_eq_true hb11) ?_
    refine g_skip ?_
    refine g_then ?_
    refine g_seq ?_
    refine g_block ?_
    refine g_anyY [] (fun wx => S wx [X, Rw 102 10 p nn cc (mV ev cur2), Old w (fps [Rw 102 10 p nn cc (mV ev z), X])]) (fun wx => S wx [X, Old w (fps [Rw 102 10 p nn cc (mV ev z), X])]) [15, 17] (by kernel_rfl) H10 (fun wq12 H13 => ?_)
    refine w_y 0 rfl (wt0 rfl) rfl rfl rfl (by kernel_rfl) (fun _ => x_move rfl rfl) ?_
    refine w_y 1 rfl (wt0 rfl) rfl rfl rfl (by kernel_rfl) (fun _ => x_move rfl rfl) ?_
    refine w_y 2 rfl (wt0 rfl) rfl rfl rfl (by kernel_rfl) (fun _ => x_move rfl rfl) ?_
    refine w_y 3 rfl (wt0 rfl) rfl rfl rfl (by kernel_rfl) (fun _ => x_move rfl rfl) ?_
    refine w_y (v := .int .i64 (((j - 1 : Nat) : Int))) 4 rfl (wt0 rfl) rfl rfl rfl (by kernel_rfl) (fun _ => x_bin rfl rfl rfl (b_subN (a := j) (b := 1) (by omega))) ?_
    refine w_y 5 rfl (wt0 rfl) rfl rfl rfl (by kernel_rfl) (fun _ => x_move rfl rfl) ?_
    refine w_y 6 rfl (wt0 rfl) rfl rfl rfl (by kernel_rfl) (fun _ => x_move rfl rfl) ?_
    refine w_y (v := .int .i64 (((j - 1 : Nat) : Int))) 7 rfl (wt0 rfl) rfl rfl rfl (by kernel_rfl) (fun _ => x_bin rfl rfl rfl (b_subN (a := j) (b := 1) (by omega))) ?_
    refine w_y (v := .pointer ((p).map fun q => q.add ((j - 1) * 10))) 8 rfl (wt0 rfl) rfl rfl rfl (by kernel_rfl) (fun _ => x_idxP (j - 1) (H13.rwSome (k := 1) rfl (by omega)) rfl rfl rfl Tryz.underlying98 sz102 (by omega)) ?_
    refine y_take (v := ev (cur2.getD (j - 1) d)) 9 rfl (wt0 rfl) rfl rfl rfl (by kernel_rfl) (by kernel_rfl) (by kernel_rfl) (by kernel_rfl) (by kernel_rfl) H13 (fun wx H => ex_cast (x_loadRA (vs := (ev (cur2.getD (j - 1) d)).cells.toList) (j - 1) (H.rwReads (k := 1) rfl) (by omega) rfl rfl Tryz.underlying102 rfl sz102 (by rw [Array.length_toList]; exact hsz _) (mV_atR hsz (by omega))) (by rw [hcs]; rfl)) ?_
    refine w_y 10 rfl (wt0 rfl) rfl rfl rfl (by kernel_rfl) (fun _ => x_move rfl rfl) ?_
    refine w_y 11 rfl (wt0 rfl) rfl rfl rfl (by kernel_rfl) (fun _ => x_move rfl rfl) ?_
    refine w_y (v := .pointer ((p).map fun q => q.add (j * 10))) 12 rfl (wt0 rfl) rfl rfl rfl (by kernel_rfl) (fun _ => x_idxP j (H13.rwSome (k := 1) rfl (by omega)) rfl rfl rfl Tryz.underlying98 sz102 (by omega)) ?_
    refine y_take (v := ev (cur2.getD j d)) 13 rfl (wt0 rfl) rfl rfl rfl (by kernel_rfl) (by kernel_rfl) (by kernel_rfl) (by kernel_rfl) (by kernel_rfl) H13 (fun wx H => ex_cast (x_loadRA (vs := (ev (cur2.getD j d)).cells.toList) j (H.rwReads (k := 1) rfl) (by omega) rfl rfl Tryz.underlying102 rfl sz102 (by rw [Array.length_toList]; exact hsz _) (mV_atR hsz (by omega))) (by rw [hcs]; rfl)) ?_
    refine w_y (v := .pointer ((p).map fun q => q.add (j * 10))) 14 rfl (wt0 rfl) rfl rfl rfl (by kernel_rfl) (fun _ => x_idxP j (H13.rwSome (k := 1) rfl (by omega)) rfl rfl rfl Tryz.underlying98 sz102 (by omega)) ?_
    refine y_one (i := 15) (by kernel_rfl) rfl ?_
    refine s_storeW (j := j) H13 1 (wt0 rfl) rfl rfl rfl rfl rfl (by rw [hsz]; exact sz102) (hsz _) (ho _) (by omega) ?_
    intro wq14 H15
    rw [mV_set hsz (cur2.getD (j - 1) d) (by first | omega | (simp only [List.length_set]; omega))] at H15
    replace H15 : S wq14 [X, Rw 102 10 p nn cc (mV ev (cur2.set j (cur2.getD (j - 1) d))), Old w (fps [Rw 102 10 p nn cc (mV ev z), X])] := H15
    refine y_kt rfl (H15.mask [true, false, true]) ?_
    refine w_y (v := .pointer ((p).map fun q => q.add ((j - 1) * 10))) 16 rfl (wt0 rfl) rfl rfl rfl (by kernel_rfl) (fun _ => x_idxP (j - 1) (H15.rwSome (k := 1) rfl (by omega)) rfl rfl rfl Tryz.underlying98 sz102 (by omega)) ?_
    refine y_one (i := 17) (by kernel_rfl) rfl ?_
    refine s_storeW (j := (j - 1)) H15 1 (wt0 rfl) rfl rfl rfl rfl rfl (by rw [hsz]; exact sz102) (hsz _) (ho _) (by omega) ?_
    intro wq16 H17
    rw [mV_set hsz (cur2.getD j d) (by first | omega | (simp only [List.length_set]; omega))] at H17
    replace H17 : S wq16 [X, Rw 102 10 p nn cc (mV ev ((cur2.set j (cur2.getD (j - 1) d)).set (j - 1) (cur2.getD j d))), Old w (fps [Rw 102 10 p nn cc (mV ev z), X])] := H17
    refine y_kt rfl (H17.mask [true, false, true]) ?_
    refine y_done (by kernel_rfl) ?_
    refine g_in ?_
    refine g_then ?_
    refine g_weak [(0, .slice p nn cc), (1, .int .i64 ((a : Int))), (2, .int .i64 ((b : Int))), (3, .func (.func gc) fi ca), (8, .int .i64 ((i : Int))), (9, .int .i64 ((j : Int))), (22, .func (.func gc) fi ca), (23, .slice p nn cc), (24, .int .i64 ((j : Int))), (25, .pointer ((p).map fun q => q.add (j * 10))), (26, ev (cur2.getD j d)), (27, .slice p nn cc), (28, .int .i64 ((j : Int))), (29, .int .i64 (((j - 1 : Nat) : Int))), (30, .pointer ((p).map fun q => q.add ((j - 1) * 10))), (31, ev (cur2.getD (j - 1) d)), (32, .int .i64 ((c (cur2.getD j d) (cur2.getD (j - 1) d)))), (33, .bool (decide (((c (cur2.getD j d) (cur2.getD (j - 1) d)) : Int) < 0)))] ⟨rfl, rfl, rfl, rfl, rfl, rfl, rfl, rfl, rfl, rfl, rfl, rfl, rfl, rfl, rfl, rfl, rfl, rfl, trivial⟩ ?_
    refine g_region ?_
    refine w_m ?_
    refine w_b (v := .int .i64 (((j - 1 : Nat) : Int))) (hb := (b_subN (a := j) (b := 1) (by omega))) ?_
    refine w_a ?_
    refine w_e ?_
    refine g_round (i := (j, cur2)) ((j - 1), ((cur2.set j (cur2.getD (j - 1) d)).set (j - 1) (cur2.getD j d))) ?_ ?_ ?_
    · exact ⟨rfl, rfl, rfl, rfl, rfl, rfl, trivial⟩
    · exact ⟨(by omega), (by simp only [List.length_set]; exact hcl2), ((swp_perm (by omega) (by omega)).trans hpp2), ((insIn_go (by omega) hb11).symm.trans hR2), (H17.takes [1, 0, 2] (by decide))⟩
    · (try dsimp only); omega
   ·
    refine g_cond_f rfl (decide_eq_false hb11) ?_
    refine g_exit ?_
    have hE : insIn d c a i cur = cur2 := hR2.symm.trans (insIn_stop hb11)
    refine g_then_exit ?_
    refine g_then_exit ?_
    refine g_in_hit ?_
    refine g_in ?_
    refine g_then ?_
    refine g_region ?_
    refine w_m ?_
    refine w_b (v := .int .i64 (((i + 1 : Nat) : Int))) (hb := (b_addN (a := i) (b := 1) (by omega))) ?_
    refine w_a ?_
    refine w_e ?_
    refine g_round (i := (i, cur)) ((i + 1), cur2) ?_ ?_ ?_
    · exact ⟨rfl, rfl, rfl, rfl, rfl, trivial⟩
    · exact ⟨(by omega), hcl2, hpp2, (by rw [← hE, ← insOut_go (by omega)]; exact hR), (H10.takes [1, 0, 2] (by decide))⟩
    · (try dsimp only); omega
  ·
   refine w_tn 4 rfl (decide_eq_false hb8) H7 ?_
   refine w_tn 5 rfl (decide_eq_false hb8) H7 ?_
   refine w_tn 6 rfl (decide_eq_false hb8) H7 ?_
   refine w_tn 7 rfl (decide_eq_false hb8) H7 ?_
   refine w_tn 8 rfl (decide_eq_false hb8) H7 ?_
   refine w_tn 9 rfl (decide_eq_false hb8) H7 ?_
   refine w_tn 10 rfl (decide_eq_false hb8) H7 ?_
   refine w_tn 11 rfl (decide_eq_false hb8) H7 ?_
   refine w_tn 12 rfl (decide_eq_false hb8) H7 ?_
   refine w_tn 13 rfl (decide_eq_false hb8) H7 ?_
   refine a_one (i := 14) (by kernel_rfl) rfl ?_
   refine s_not (wn1 rfl rfl rfl rfl (decide_eq_false hb8)) rfl rfl ?_
   refine a_k H7 ?_
   refine w_tn 15 rfl (decide_eq_false hb8) H7 ?_
   refine w_t (v := .bool false) 16 rfl H7 (fun _ _ => x_pick_f rfl rfl (decide_eq_false hb8) rfl) ?_
   refine a_done (by kernel_rfl) ?_
   refine g_then ?_
   refine g_cond_f rfl rfl ?_
   refine g_exit ?_
   have hE : insIn d c a i cur = cur2 := hR2.symm.trans (insIn_end (by omega))
   refine g_then_exit ?_
   refine g_then_exit ?_
   refine g_in_hit ?_
   refine g_in ?_
   refine g_then ?_
   refine g_region ?_
   refine w_m ?_
   refine w_b (v := .int .i64 (((i + 1 : Nat) : Int))) (hb := (b_addN (a := i) (b := 1) (by omega))) ?_
   refine w_a ?_
   refine w_e ?_
   refine g_round (i := (i, cur)) ((i + 1), cur2) ?_ ?_ ?_
   · exact ⟨rfl, rfl, rfl, rfl, rfl, trivial⟩
   · exact ⟨(by omega), hcl2, hpp2, (by rw [← hE, ← insOut_go (by omega)]; exact hR), (H7.takes [0, 1, 2] (by decide))⟩
   · (try dsimp only); omega
 ·
  refine g_cond_f rfl (decide_eq_false hb3) ?_
  refine g_exit ?_
  refine g_then_exit ?_
  refine g_then_exit ?_
  refine g_in_hit ?_
  refine fin_end [] [] rfl trivial ?_
  exact ⟨rfl, by rw [← hR, insOut_end (by omega)]; exact (H2.takes [0, 1, 2] (by decide))⟩
end Go.Proofs.YtpbjekdjebjbkaaGreat
namespace Go.Proofs.YtpbjekdjebjbkaaGreat
open Go.RowKit

theorem cl132 : callable Tryz.prog 132 = true := by kernel_rfl
theorem cl140 : callable Tryz.prog 140 = true := by kernel_rfl
def Sym_s {β : Type} (d : β) (ev : β → Value) (gc : Nat) (fi ca : Array Value) (c : β → β → Int) (X : Item) (zall : List β) (nn : Nat) (p : Option Addr) (cc n : Nat) : Prop :=
  ∀ (z : List β) (_ : z.length = nn) (_ : z.Perm zall) (a m b : Nat) (_ : a < m) (_ : m < b) (_ : b ≤ nn) (_ : b - a ≤ n) (w : World) (_ : S w [Rw 102 10 p nn cc (mV ev z), X]),
    Calls Tryz.prog 132 #[.slice p nn cc, .int .i64 (a : Int), .int .i64 (m : Int), .int .i64 (b : Int), .func (.func gc) fi ca] w fun e w' => e = .returned (.tuple #[]) ∧ S w' ([Rw 102 10 p nn cc (mV ev (symS d c n a m b z)), X] ++ [Old w (fps [Rw 102 10 p nn cc (mV ev z), X])])
theorem symS_one {β : Type} {d : β} {c : β → β → Int} {n a m b : Nat} {z : List β} (h : m - a = 1) : symS d c (n + 1) a m b z = shR d (bsS (fun h => decide (c (z.getD h d) (z.getD a d) < 0)) (b - m) m b - 1 - a) a z := by
  unfold symS; rw [if_pos h]
theorem symS_two {β : Type} {d : β} {c : β → β → Int} {n a m b : Nat} {z : List β} (h : ¬ m - a = 1) (h2 : b - m = 1) : symS d c (n + 1) a m b z = shL d (m - bsS (fun h => !decide (c (z.getD m d) (z.getD h d) < 0)) (m - a) a m) m z := by
  unfold symS; rw [if_neg h, if_pos h2]
theorem symS_gen {β : Type} {d : β} {c : β → β → Int} {n a m b : Nat} {z : List β} (h : ¬ m - a = 1) (h2 : ¬ b - m = 1) {s0 r0 st en : Nat} {l1 l2 : List β} (e1 : s0 = if (a + b) / 2 < m then (a + b) / 2 + m - b else a) (e2 : r0 = if (a + b) / 2 < m then (a + b) / 2 else m)
    (e3 : bsS (fun h => !decide (c (z.getD ((a + b) / 2 + m - 1 - h) d) (z.getD h d) < 0)) (r0 - s0) s0 r0 = st) (e4 : en = (a + b) / 2 + m - st) (e5 : l1 = if st < m ∧ m < en then rotS d m (en - st) (m - st) (en - m) z else z)
    (e6 : l2 = if a < st ∧ st < (a + b) / 2 then symS d c n a st ((a + b) / 2) l1 else l1) : symS d c (n + 1) a m b z = if (a + b) / 2 < en ∧ en < b then symS d c n ((a + b) / 2) en b l2 else l2 := by
  conv => lhs; unfold symS
  rw [if_neg h, if_neg h2]
  dsimp only
  rw [← e1, ← e2, e3, ← e4, ← e5, ← e6]
theorem sym_bnd {a b m s0 r0 : Nat} (h1 : a < m) (h2 : m < b) (e1 : s0 = if (a + b) / 2 < m then (a + b) / 2 + m - b else a) (e2 : r0 = if (a + b) / 2 < m then (a + b) / 2 else m) : s0 ≤ r0 ∧ a ≤ s0 ∧ r0 ≤ m ∧ r0 ≤ (a + b) / 2 ∧ (a + b) / 2 + m - b ≤ s0 := by
  subst e1 e2; split <;> omega
set_option maxRecDepth 20000 in
set_option maxHeartbeats 4000000 in
theorem symS_s_step {β : Type} (d : β) (ev : β → Value) (cs : β → Array Value) (hcs : ∀ x, ev x = .agg (cs x)) (hsz : ∀ x, (ev x).cells.size = 10) (ho : ∀ x, (ev x).cells.toList.all (·.oneCell') = true) (z : List β) (nn : Nat) (hz : z.length = nn) (p : Option Addr) (cc : Nat) (hm : nn ≤ 1099511627776) (c : β → β → Int) (gc : Nat) (fi ca : Array Value) (X : Item) (zall : List β) (hpp : z.Perm zall) (hc : Cmps Tryz.prog gc fi ca X ev c zall) (n : Nat) (ih : Sym_s d ev gc fi ca c X zall nn p cc n) (a m b : Nat) (ham : a < m) (hmb : m < b) (hb : b ≤ nn) (hn : b - a ≤ n + 1) (w : World) (HS : S w [Rw 102 10 p nn cc (mV ev z), X]) : Calls Tryz.prog 132 #[.slice p nn cc, .int .i64 ((a : Int)), .int .i64 ((m : Int)), .int .i64 ((b : Int)), .func (.func gc) fi ca] w fun e w' => e = .returned (.tuple #[]) ∧ S w' ([Rw 102 10 p nn cc (mV ev (symS d c (n + 1) a m b z)), X] ++ [Old w (fps [Rw 102 10 p nn cc (mV ev z), X])]) := by
 have H0 := HS.beginI
 have hpm : ∀ y, y ∈ z → y ∈ zall := fun y hy => (hpp.mem_iff).1 hy
 refine enter 220 Tryz.func132 rfl rfl rfl ?_
 refine g_weak [(0, .slice p nn cc), (1, .int .i64 ((a : Int))), (2, .int .i64 ((m : Int))), (3, .int .i64 ((b : Int))), (4, .func (.func gc) fi ca)] ⟨rfl, rfl, rfl, rfl, rfl, trivial⟩ ?_
 refine g_seq ?_
 refine w_s ?_
 refine w_r2 ?_
 refine w_b (v := .int .i64 (((m - a : Nat) : Int))) (hb := (b_subN (a := m) (b := a) (by omega))) ?_
 refine w_b ?_
 refine w_e ?_
 by_cases hb1 : (((m - a : Nat) : Int) : Int) = 1
 ·
  refine g_cond_t rfl (decide_eq_true hb1) ?_
  refine w_s ?_
  refine w_r2 ?_
  refine w_e ?_
  refine w_s ?_
  refine w_r2 ?_
  refine w_e ?_
  refine g_seq ?_
  refine g_block ?_
  refine g_loop (ι := Nat × Nat × Nat) (fun (n9, i, j) => [(0, .slice p nn cc), (1, .int .i64 ((a : Int))), (4, .func (.func gc) fi ca), (10, .int .i64 ((i : Int))), (11, .int .i64 ((j : Int)))]) (fun (n9, i, j) wx => (m ≤ i ∧ i ≤ j ∧ j ≤ b) ∧ (j - i ≤ n9) ∧ (bsS (fun h => decide (c (z.getD h d) (z.getD a d) < 0)) n9 i j = bsS (fun h => decide (c (z.getD h d) (z.getD a d) < 0)) (b - m) m b) ∧ S wx [Rw 102 10 p nn cc (mV ev z), X, Old w (fps [Rw 102 10 p nn cc (mV ev z), X])]) (fun (n9, i, j) => j - i) ((b - m), m, b) ⟨rfl, rfl, rfl, rfl, rfl, trivial⟩ ⟨(by omega), (Nat.le_refl _), rfl, (H0.takes [0, 1, 2] (by decide))⟩ ?_
  rintro ⟨n9, i, j⟩ wq2 ⟨hij, hn9, hbs, H3⟩
  refine g_weak [(0, .slice p nn cc), (1, .int .i64 ((a : Int))), (4, .func (.func gc) fi ca), (10, .int .i64 ((i : Int))), (11, .int .i64 ((j : Int)))] ⟨rfl, rfl, rfl, rfl, rfl, trivial⟩ ?_
  refine g_seq ?_
  refine w_s ?_
  refine w_r2 ?_
  refine w_b ?_
  refine w_e ?_
  by_cases hb4 : ((i : Int) : Int) < (j : Int)
  ·
   refine g_cond_t rfl (decide_eq_true hb4) ?_
   refine g_skip ?_
   refine g_then ?_
   refine g_block ?_
   refine w_s ?_
   refine w_r2 ?_
   refine w_b (v := .int .i64 (((i + j : Nat) : Int))) (hb := (b_addN (a := i) (b := j) (by omega))) ?_
   refine w_v (v := .int .u64 (((i + j : Nat) : Int))) (x_conv rfl rfl Tryz.underlying3 Tryz.underlying135 (wrapU (by omega))) ?_
   refine w_b (v := .int .u64 ((((i + j) / 2 : Nat) : Int))) (hb := (b_shrN (a := i + j) (n := 1) (by decide))) ?_
   refine w_v (v := .int .i64 ((((i + j) / 2 : Nat) : Int))) (x_conv rfl rfl Tryz.underlying135 Tryz.underlying3 (w64 (by omega))) ?_
   refine w_a ?_
   refine w_e ?_
   refine g_seq ?_
   refine g_any [] (fun wx => S wx [Rw 102 10 p nn cc (mV ev z), X, Old w (fps [Rw 102 10 p nn cc (mV ev z), X])]) [] (by kernel_rfl) H3 (fun wq5 H6 => ?_)
   refine w_t 0 rfl H6 (fun _ _ => xm) ?_
   refine w_t 1 rfl H6 (fun _ _ => xm) ?_
   refine w_t 2 rfl H6 (fun _ _ => xm) ?_
   refine w_t (v := .pointer ((p).map fun q => q.add (((i + j) / 2) * 10))) 3 rfl H6 (fun _ _ => x_idxP ((i + j) / 2) (H6.rwSome (k := 0) rfl (by omega)) rfl rfl rfl Tryz.underlying98 sz102 (by omega)) ?_
   refine w_t (v := ev (z.getD ((i + j) / 2) d)) 4 rfl H6 (fun _ H => ex_cast (x_loadRA (vs := (ev (z.getD ((i + j) / 2) d)).cells.toList) ((i + j) / 2) (H.rwReads (k := 0) rfl) (by omega) rfl rfl Tryz.underlying102 rfl sz102 (by rw [Array.length_toList]; exact hsz _) (mV_atR hsz (by omega))) (by rw [hcs]; rfl)) ?_
   refine w_t 5 rfl H6 (fun _ _ => xm) ?_
   refine w_t 6 rfl H6 (fun _ _ => xm) ?_
   refine w_t (v := .pointer ((p).map fun q => q.add (a * 10))) 7 rfl H6 (fun _ _ => x_idxP a (H6.rwSome (k := 0) rfl (by omega)) rfl rfl rfl Tryz.underlying98 sz102 (by omega)) ?_
   refine w_t (v := ev (z.getD a d)) 8 rfl H6 (fun _ H => ex_cast (x_loadRA (vs := (ev (z.getD a d)).cells.toList) a (H.rwReads (k := 0) rfl) (by omega) rfl rfl Tryz.underlying102 rfl sz102 (by rw [Array.length_toList]; exact hsz _) (mV_atR hsz (by omega))) (by rw [hcs]; rfl)) ?_
   refine a_one (i := 9) (by kernel_rfl) rfl ?_
   refine s_call (wt0 rfl) (x_call rfl rfl rfl hc.ok) (hc.does _ (hpm _ (getD_mem (by omega))) _ (hpm _ (getD_mem (by omega))) _ (H6.takes [1] (by decide))) ?_
   rintro _ wq7 ⟨rfl, H8⟩
   replace H8 : S wq7 [X, Rw 102 10 p nn cc (mV ev z), Old w (fps [Rw 102 10 p nn cc (mV ev z), X])] := by have h := H6.absorbI [1] H8; exact h
   refine b_ret rfl rfl ?_
   refine a_k (H8.takes [1, 0, 2] (by decide)) ?_
   refine w_t 10 rfl (H8.takes [1, 0, 2] (by decide)) (fun _ _ => x_bin rfl rfl rfl b_lss) ?_
   refine a_done (by kernel_rfl) ?_
   refine g_then ?_
   refine g_weak [(0, .slice p nn cc), (1, .int .i64 ((a : Int))), (4, .func (.func gc) fi ca), (10, .int .i64 ((i : Int))), (11, .int .i64 ((j : Int))), (12, .int .i64 ((((i + j) / 2 : Nat) : Int))), (50, .bool (decide (((c (z.getD ((i + j) / 2) d) (z.getD a d)) : Int) < 0)))] ⟨rfl, rfl, rfl, rfl, rfl, rfl, rfl, trivial⟩ ?_
   by_cases hb9 : ((c (z.getD ((i + j) / 2) d) (z.getD a d)) : Int) < 0
   ·
    refine g_cond_t rfl (decide_eq_true hb9) ?_
    refine g_region ?_
    refine w_m ?_
    refine w_b (v := .int .i64 (((((i + j) / 2) + 1 : Nat) : Int))) (hb := (b_addN (a := ((i + j) / 2)) (b := 1) (by omega))) ?_
    refine w_a ?_
    refine g_nil ?_
    refine g_in ?_
    refine g_then ?_
    refine g_round (i := (n9, i, j)) ((n9 - 1), ((i + j) / 2 + 1), j) ?_ ?_ ?_
    · exact ⟨rfl, rfl, rfl, rfl, rfl, trivial⟩
    · exact ⟨(by omega), (by omega), ((bsS_t (by omega) hn9 (decide_eq_true hb9)).symm.trans hbs), (H8.takes [1, 0, 2] (by decide))⟩
    · (try dsimp only); omega
   ·
    refine g_cond_f rfl (decide_eq_false hb9) ?_
    refine g_region ?_
    refine w_r2 ?_
    refine g_nil ?_
    refine g_in ?_
    refine g_then ?_
    refine g_round (i := (n9, i, j)) ((n9 - 1), i, ((i + j) / 2)) ?_ ?_ ?_
    · exact ⟨rfl, rfl, rfl, rfl, rfl, trivial⟩
    · exact ⟨(by omega), (by omega), ((bsS_f (by omega) hn9 (decide_eq_false hb9)).symm.trans hbs), (H8.takes [1, 0, 2] (by decide))⟩
    · (try dsimp only); omega
  ·
   refine g_cond_f rfl (decide_eq_false hb4) ?_
   refine g_exit ?_
   have hst : i = bsS (fun h => decide (c (z.getD h d) (z.getD a d) < 0)) (b - m) m b := (bsS_done (by omega)).symm.trans hbs
   obtain ⟨st, hst2⟩ : ∃ st, st = i := ⟨_, rfl⟩
   rw [← hst2] at hst
   have hst3 : m ≤ st ∧ st ≤ b := by omega
   rw [show i = st from hst2.symm]
   refine g_then_exit ?_
   refine g_then_exit ?_
   refine g_in_hit ?_
   refine g_then ?_
   refine g_seq ?_
   refine w_s ?_
   refine w_r2 ?_
   refine w_e ?_
   refine g_block ?_
   refine g_loop (ι := Nat × List β) (fun (k, cur) => [(0, .slice p nn cc), (10, .int .i64 ((st : Int))), (13, .int .i64 ((k : Int)))]) (fun (k, cur) wx => (a ≤ k ∧ k < b) ∧ (cur.length = nn) ∧ (shR d (st - 1 - k) k cur = shR d (st - 1 - a) a z) ∧ S wx [Rw 102 10 p nn cc (mV ev cur), X, Old w (fps [Rw 102 10 p nn cc (mV ev z), X])]) (fun (k, cur) => st - 1 - k) (a, z) ⟨rfl, rfl, rfl, trivial⟩ ⟨(by omega), hz, rfl, (H3.takes [0, 1, 2] (by decide))⟩ ?_
   rintro ⟨k, cur⟩ wq10 ⟨hk, hcl, hR, H11⟩
   refine g_weak [(0, .slice p nn cc), (10, .int .i64 ((st : Int))), (13, .int .i64 ((k : Int)))] ⟨rfl, rfl, rfl, trivial⟩ ?_
   refine g_seq ?_
   refine w_s ?_
   refine w_r2 ?_
   refine w_b (v := .int .i64 (((st - 1 : Nat) : Int))) (hb := (b_subN (a := st) (b := 1) (by omega))) ?_
   refine w_b ?_
   refine w_e ?_
   by_cases hb12 : ((k : Int) : Int) < ((st - 1 : Nat) : Int)
   ·
    refine g_cond_t rfl (decide_eq_true hb12) ?_
    refine g_skip ?_
    refine g_then ?_
    refine g_seq ?_
    refine g_block ?_
    refine g_anyY [] (fun wx => S wx [Rw 102 10 p nn cc (mV ev cur), X, Old w (fps [Rw 102 10 p nn cc (mV ev z), X])]) (fun wx => S wx [X, Old w (fps [Rw 102 10 p nn cc (mV ev z), X])]) [15, 17] (by kernel_rfl) H11 (fun wq13 H14 => ?_)
    refine w_y 0 rfl (wt0 rfl) rfl rfl rfl (by kernel_rfl) (fun _ => x_move rfl rfl) ?_
    refine w_y 1 rfl (wt0 rfl) rfl rfl rfl (by kernel_rfl) (fun _ => x_move rfl rfl) ?_
    refine w_y 2 rfl (wt0 rfl) rfl rfl rfl (by kernel_rfl) (fun _ => x_move rfl rfl) ?_
    refine w_y 3 rfl (wt0 rfl) rfl rfl rfl (by kernel_rfl) (fun _ => x_move rfl rfl) ?_
    refine w_y (v := .int .i64 (((k + 1 : Nat) : Int))) 4 rfl (wt0 rfl) rfl rfl rfl (by kernel_rfl) (fun _ => x_bin rfl rfl rfl (b_addN (a := k) (b := 1) (by omega))) ?_
    refine w_y 5 rfl (wt0 rfl) rfl rfl rfl (by kernel_rfl) (fun _ => x_move rfl rfl) ?_
    refine w_y 6 rfl (wt0 rfl) rfl rfl rfl (by kernel_rfl) (fun _ => x_move rfl rfl) ?_
    refine w_y (v := .int .i64 (((k + 1 : Nat) : Int))) 7 rfl (wt0 rfl) rfl rfl rfl (by kernel_rfl) (fun _ => x_bin rfl rfl rfl (b_addN (a := k) (b := 1) (by omega))) ?_
    refine w_y (v := .pointer ((p).map fun q => q.add ((k + 1) * 10))) 8 rfl (wt0 rfl) rfl rfl rfl (by kernel_rfl) (fun _ => x_idxP (k + 1) (H14.rwSome (k := 0) rfl (by omega)) rfl rfl rfl Tryz.underlying98 sz102 (by omega)) ?_
    refine y_take (v := ev (cur.getD (k + 1) d)) 9 rfl (wt0 rfl) rfl rfl rfl (by kernel_rfl) (by kernel_rfl) (by kernel_rfl) (by kernel_rfl) (by kernel_rfl) H14 (fun wx H => ex_cast (x_loadRA (vs := (ev (cur.getD (k + 1) d)).cells.toList) (k + 1) (H.rwReads (k := 0) rfl) (by omega) rfl rfl Tryz.underlying102 rfl sz102 (by rw [Array.length_toList]; exact hsz _) (mV_atR hsz (by omega))) (by rw [hcs]; rfl)) ?_
    refine w_y 10 rfl (wt0 rfl) rfl rfl rfl (by kernel_rfl) (fun _ => x_move rfl rfl) ?_
    refine w_y 11 rfl (wt0 rfl) rfl rfl rfl (by kernel_rfl) (fun _ => x_move rfl rfl) ?_
    refine w_y (v := .pointer ((p).map fun q => q.add (k * 10))) 12 rfl (wt0 rfl) rfl rfl rfl (by kernel_rfl) (fun _ => x_idxP k (H14.rwSome (k := 0) rfl (by omega)) rfl rfl rfl Tryz.underlying98 sz102 (by omega)) ?_
    refine y_take (v := ev (cur.getD k d)) 13 rfl (wt0 rfl) rfl rfl rfl (by kernel_rfl) (by kernel_rfl) (by kernel_rfl) (by kernel_rfl) (by kernel_rfl) H14 (fun wx H => ex_cast (x_loadRA (vs := (ev (cur.getD k d)).cells.toList) k (H.rwReads (k := 0) rfl) (by omega) rfl rfl Tryz.underlying102 rfl sz102 (by rw [Array.length_toList]; exact hsz _) (mV_atR hsz (by omega))) (by rw [hcs]; rfl)) ?_
    refine w_y (v := .pointer ((p).map fun q => q.add (k * 10))) 14 rfl (wt0 rfl) rfl rfl rfl (by kernel_rfl) (fun _ => x_idxP k (H14.rwSome (k := 0) rfl (by omega)) rfl rfl rfl Tryz.underlying98 sz102 (by omega)) ?_
    refine y_one (i := 15) (by kernel_rfl) rfl ?_
    refine s_storeW (j := k) H14 0 (wt0 rfl) rfl rfl rfl rfl rfl (by rw [hsz]; exact sz102) (hsz _) (ho _) (by omega) ?_
    intro wq15 H16
    rw [mV_set hsz (cur.getD (k + 1) d) (by first | omega | (simp only [List.length_set]; omega))] at H16
    replace H16 : S wq15 [Rw 102 10 p nn cc (mV ev (cur.set k (cur.getD (k + 1) d))), X, Old w (fps [Rw 102 10 p nn cc (mV ev z), X])] := H16
    refine y_kt rfl (H16.mask [false, true, true]) ?_
    refine w_y (v := .pointer ((p).map fun q => q.add ((k + 1) * 10))) 16 rfl (wt0 rfl) rfl rfl rfl (by kernel_rfl) (fun _ => x_idxP (k + 1) (H16.rwSome (k := 0) rfl (by omega)) rfl rfl rfl Tryz.underlying98 sz102 (by omega)) ?_
    refine y_one (i := 17) (by kernel_rfl) rfl ?_
    refine s_storeW (j := (k + 1)) H16 0 (wt0 rfl) rfl rfl rfl rfl rfl (by rw [hsz]; exact sz102) (hsz _) (ho _) (by omega) ?_
    intro wq17 H18
    rw [mV_set hsz (cur.getD k d) (by first | omega | (simp only [List.length_set]; omega))] at H18
    replace H18 : S wq17 [Rw 102 10 p nn cc (mV ev ((cur.set k (cur.getD (k + 1) d)).set (k + 1) (cur.getD k d))), X, Old w (fps [Rw 102 10 p nn cc (mV ev z), X])] := H18
    refine y_kt rfl (H18.mask [false, true, true]) ?_
    refine y_done (by kernel_rfl) ?_
    refine g_in ?_
    refine g_then ?_
    refine g_weak [(0, .slice p nn cc), (10, .int .i64 ((st : Int))), (13, .int .i64 ((k : Int)))] ⟨rfl, rfl, rfl, trivial⟩ ?_
    refine g_region ?_
    refine w_m ?_
    refine w_b (v := .int .i64 (((k + 1 : Nat) : Int))) (hb := (b_addN (a := k) (b := 1) (by omega))) ?_
    refine w_a ?_
    refine w_e ?_
    refine g_round (i := (k, cur)) ((k + 1), ((cur.set k (cur.getD (k + 1) d)).set (k + 1) (cur.getD k d))) ?_ ?_ ?_
    · exact ⟨rfl, rfl, rfl, trivial⟩
    · exact ⟨(by omega), (by simp only [List.length_set]; exact hcl), ((shR_go (by omega)).symm.trans hR), (H18.takes [0, 1, 2] (by decide))⟩
    · (try dsimp only); omega
   ·
    refine g_cond_f rfl (decide_eq_false hb12) ?_
    refine g_exit ?_
    refine g_then_exit ?_
    refine g_then_exit ?_
    refine g_in_hit ?_
    refine g_then ?_
    refine g_ret ?_
    refine g_then_ret ?_
    refine fin_ret [] [] rfl trivial ?_
    exact ⟨rfl, by rw [symS_one (by omega), ← hst, ← hR, shR_end (by omega)]; exact (H11.takes [0, 1, 2] (by decide))⟩
 ·
  refine g_cond_f rfl (decide_eq_false hb1) ?_
  refine g_skip ?_
  refine g_then ?_
  refine g_seq ?_
  refine w_s ?_
  refine w_r2 ?_
  refine w_b (v := .int .i64 (((b - m : Nat) : Int))) (hb := (b_subN (a := b) (b := m) (by omega))) ?_
  refine w_b ?_
  refine w_e ?_
  by_cases hb19 : (((b - m : Nat) : Int) : Int) = 1
  ·
   refine g_cond_t rfl (decide_eq_true hb19) ?_
   refine w_s ?_
   refine w_r2 ?_
   refine w_e ?_
   refine w_s ?_
   refine w_r2 ?_
   refine w_e ?_
   refine g_weak [(0, .slice p nn cc), (2, .int .i64 ((m : Int))), (4, .func (.func gc) fi ca), (14, .int .i64 ((a : Int))), (15, .int .i64 ((m : Int)))] ⟨rfl, rfl, rfl, rfl, rfl, trivial⟩ ?_
   refine g_seq ?_
   refine g_block ?_
   refine g_loop (ι := Nat × Nat × Nat) (fun (n9, i, j) => [(0, .slice p nn cc), (2, .int .i64 ((m : Int))), (4, .func (.func gc) fi ca), (14, .int .i64 ((i : Int))), (15, .int .i64 ((j : Int)))]) (fun (n9, i, j) wx => (a ≤ i ∧ i ≤ j ∧ j ≤ m) ∧ (j - i ≤ n9) ∧ (bsS (fun h => !decide (c (z.getD m d) (z.getD h d) < 0)) n9 i j = bsS (fun h => !decide (c (z.getD m d) (z.getD h d) < 0)) (m - a) a m) ∧ S wx [Rw 102 10 p nn cc (mV ev z), X, Old w (fps [Rw 102 10 p nn cc (mV ev z), X])]) (fun (n9, i, j) => j - i) ((m - a), a, m) ⟨rfl, rfl, rfl, rfl, rfl, trivial⟩ ⟨(by omega), (Nat.le_refl _), rfl, (H0.takes [0, 1, 2] (by decide))⟩ ?_
   rintro ⟨n9, i, j⟩ wq20 ⟨hij, hn9, hbs, H21⟩
   refine g_weak [(0, .slice p nn cc), (2, .int .i64 ((m : Int))), (4, .func (.func gc) fi ca), (14, .int .i64 ((i : Int))), (15, .int .i64 ((j : Int)))] ⟨rfl, rfl, rfl, rfl, rfl, trivial⟩ ?_
   refine g_seq ?_
   refine w_s ?_
   refine w_r2 ?_
   refine w_b ?_
   refine w_e ?_
   by_cases hb22 : ((i : Int) : Int) < (j : Int)
   ·
    refine g_cond_t rfl (decide_eq_true hb22) ?_
    refine g_skip ?_
    refine g_then ?_
    refine g_block ?_
    refine w_s ?_
    refine w_r2 ?_
    refine w_b (v := .int .i64 (((i + j : Nat) : Int))) (hb := (b_addN (a := i) (b := j) (by omega))) ?_
    refine w_v (v := .int .u64 (((i + j : Nat) : Int))) (x_conv rfl rfl Tryz.underlying3 Tryz.underlying135 (wrapU (by omega))) ?_
    refine w_b (v := .int .u64 ((((i + j) / 2 : Nat) : Int))) (hb := (b_shrN (a := i + j) (n := 1) (by decide))) ?_
    refine w_v (v := .int .i64 ((((i + j) / 2 : Nat) : Int))) (x_conv rfl rfl Tryz.underlying135 Tryz.underlying3 (w64 (by omega))) ?_
    refine w_a ?_
    refine w_e ?_
    refine g_seq ?_
    refine g_any [] (fun wx => S wx [Rw 102 10 p nn cc (mV ev z), X, Old w (fps [Rw 102 10 p nn cc (mV ev z), X])]) [] (by kernel_rfl) H21 (fun wq23 H24 => ?_)
    refine w_t 0 rfl H24 (fun _ _ => xm) ?_
    refine w_t 1 rfl H24 (fun _ _ => xm) ?_
    refine w_t 2 rfl H24 (fun _ _ => xm) ?_
    refine w_t (v := .pointer ((p).map fun q => q.add (m * 10))) 3 rfl H24 (fun _ _ => x_idxP m (H24.rwSome (k := 0) rfl (by omega)) rfl rfl rfl Tryz.underlying98 sz102 (by omega)) ?_
    refine w_t (v := ev (z.getD m d)) 4 rfl H24 (fun _ H => ex_cast (x_loadRA (vs := (ev (z.getD m d)).cells.toList) m (H.rwReads (k := 0) rfl) (by omega) rfl rfl Tryz.underlying102 rfl sz102 (by rw [Array.length_toList]; exact hsz _) (mV_atR hsz (by omega))) (by rw [hcs]; rfl)) ?_
    refine w_t 5 rfl H24 (fun _ _ => xm) ?_
    refine w_t 6 rfl H24 (fun _ _ => xm) ?_
    refine w_t (v := .pointer ((p).map fun q => q.add (((i + j) / 2) * 10))) 7 rfl H24 (fun _ _ => x_idxP ((i + j) / 2) (H24.rwSome (k := 0) rfl (by omega)) rfl rfl rfl Tryz.underlying98 sz102 (by omega)) ?_
    refine w_t (v := ev (z.getD ((i + j) / 2) d)) 8 rfl H24 (fun _ H => ex_cast (x_loadRA (vs := (ev (z.getD ((i + j) / 2) d)).cells.toList) ((i + j) / 2) (H.rwReads (k := 0) rfl) (by omega) rfl rfl Tryz.underlying102 rfl sz102 (by rw [Array.length_toList]; exact hsz _) (mV_atR hsz (by omega))) (by rw [hcs]; rfl)) ?_
    refine a_one (i := 9) (by kernel_rfl) rfl ?_
    refine s_call (wt0 rfl) (x_call rfl rfl rfl hc.ok) (hc.does _ (hpm _ (getD_mem (by omega))) _ (hpm _ (getD_mem (by omega))) _ (H24.takes [1] (by decide))) ?_
    rintro _ wq25 ⟨rfl, H26⟩
    replace H26 : S wq25 [X, Rw 102 10 p nn cc (mV ev z), Old w (fps [Rw 102 10 p nn cc (mV ev z), X])] := by have h := H24.absorbI [1] H26; exact h
    refine b_ret rfl rfl ?_
    refine a_k (H26.takes [1, 0, 2] (by decide)) ?_
    refine w_t 10 rfl (H26.takes [1, 0, 2] (by decide)) (fun _ _ => x_bin rfl rfl rfl b_lss) ?_
    refine w_t (v := .bool (!decide (((c (z.getD m d) (z.getD ((i + j) / 2) d)) : Int) < 0))) 11 rfl (H26.takes [1, 0, 2] (by decide)) (fun _ _ => x_not (b := decide (((c (z.getD m d) (z.getD ((i + j) / 2) d)) : Int) < 0)) rfl rfl) ?_
    refine a_done (by kernel_rfl) ?_
    refine g_then ?_
    refine g_weak [(0, .slice p nn cc), (2, .int .i64 ((m : Int))), (4, .func (.func gc) fi ca), (14, .int .i64 ((i : Int))), (15, .int .i64 ((j : Int))), (16, .int .i64 ((((i + j) / 2 : Nat) : Int))), (103, .bool (!decide (((c (z.getD m d) (z.getD ((i + j) / 2) d)) : Int) < 0)))] ⟨rfl, rfl, rfl, rfl, rfl, rfl, rfl, trivial⟩ ?_
    by_cases hb27 : ((c (z.getD m d) (z.getD ((i + j) / 2) d)) : Int) < 0
    ·
     refine g_cond_f rfl (nf hb27) ?_
     refine g_region ?_
     refine w_r2 ?_
     refine g_nil ?_
     refine g_in ?_
     refine g_then ?_
     refine g_round (i := (n9, i, j)) ((n9 - 1), i, ((i + j) / 2)) ?_ ?_ ?_
     · exact ⟨rfl, rfl, rfl, rfl, rfl, trivial⟩
     · exact ⟨(by omega), (by omega), ((bsS_f (by omega) hn9 (nf hb27)).symm.trans hbs), (H26.takes [1, 0, 2] (by decide))⟩
     · (try dsimp only); omega
    ·
     refine g_cond_t rfl (nt hb27) ?_
     refine g_region ?_
     refine w_m ?_
     refine w_b (v := .int .i64 (((((i + j) / 2) + 1 : Nat) : Int))) (hb := (b_addN (a := ((i + j) / 2)) (b := 1) (by omega))) ?_
     refine w_a ?_
     refine g_nil ?_
     refine g_in ?_
     refine g_then ?_
     refine g_round (i := (n9, i, j)) ((n9 - 1), ((i + j) / 2 + 1), j) ?_ ?_ ?_
     · exact ⟨rfl, rfl, rfl, rfl, rfl, trivial⟩
     · exact ⟨(by omega), (by omega), ((bsS_t (by omega) hn9 (nt hb27)).symm.trans hbs), (H26.takes [1, 0, 2] (by decide))⟩
     · (try dsimp only); omega
   ·
    refine g_cond_f rfl (decide_eq_false hb22) ?_
    refine g_exit ?_
    have hst : i = bsS (fun h => !decide (c (z.getD m d) (z.getD h d) < 0)) (m - a) a m := (bsS_done (by omega)).symm.trans hbs
    obtain ⟨st, hst2⟩ : ∃ st, st = i := ⟨_, rfl⟩
    rw [← hst2] at hst
    have hst3 : a ≤ st ∧ st ≤ m := by omega
    rw [show i = st from hst2.symm]
    refine g_then_exit ?_
    refine g_then_exit ?_
    refine g_in_hit ?_
    refine g_then ?_
    refine g_seq ?_
    refine w_s ?_
    refine w_r2 ?_
    refine w_e ?_
    refine g_block ?_
    refine g_loop (ι := Nat × List β) (fun (k, cur) => [(0, .slice p nn cc), (14, .int .i64 ((st : Int))), (17, .int .i64 ((k : Int)))]) (fun (k, cur) wx => (k ≤ m ∧ (k = m ∨ st ≤ k)) ∧ (cur.length = nn) ∧ (shL d (k - st) k cur = shL d (m - st) m z) ∧ S wx [Rw 102 10 p nn cc (mV ev cur), X, Old w (fps [Rw 102 10 p nn cc (mV ev z), X])]) (fun (k, cur) => k - st) (m, z) ⟨rfl, rfl, rfl, trivial⟩ ⟨(by omega), hz, rfl, (H21.takes [0, 1, 2] (by decide))⟩ ?_
    rintro ⟨k, cur⟩ wq28 ⟨hk, hcl, hR, H29⟩
    refine g_weak [(0, .slice p nn cc), (14, .int .i64 ((st : Int))), (17, .int .i64 ((k : Int)))] ⟨rfl, rfl, rfl, trivial⟩ ?_
    refine g_seq ?_
    refine w_s ?_
    refine w_r2 ?_
    refine w_b ?_
    refine w_e ?_
    by_cases hb30 : ((st : Int) : Int) < (k : Int)
    ·
     refine g_cond_t rfl (decide_eq_true hb30) ?_
     refine g_skip ?_
     refine g_then ?_
     refine g_seq ?_
     refine g_block ?_
     refine g_anyY [] (fun wx => S wx [Rw 102 10 p nn cc (mV ev cur), X, Old w (fps [Rw 102 10 p nn cc (mV ev z), X])]) (fun wx => S wx [X, Old w (fps [Rw 102 10 p nn cc (mV ev z), X])]) [15, 17] (by kernel_rfl) H29 (fun wq31 H32 => ?_)
     refine w_y 0 rfl (wt0 rfl) rfl rfl rfl (by kernel_rfl) (fun _ => x_move rfl rfl) ?_
     refine w_y 1 rfl (wt0 rfl) rfl rfl rfl (by kernel_rfl) (fun _ => x_move rfl rfl) ?_
     refine w_y 2 rfl (wt0 rfl) rfl rfl rfl (by kernel_rfl) (fun _ => x_move rfl rfl) ?_
     refine w_y 3 rfl (wt0 rfl) rfl rfl rfl (by kernel_rfl) (fun _ => x_move rfl rfl) ?_
     refine w_y (v := .int .i64 (((k - 1 : Nat) : Int))) 4 rfl (wt0 rfl) rfl rfl rfl (by kernel_rfl) (fun _ => x_bin rfl rfl rfl (b_subN (a := k) (b := 1) (by omega))) ?_
     refine w_y 5 rfl (wt0 rfl) rfl rfl rfl (by kernel_rfl) (fun _ => x_move rfl rfl) ?_
     refine w_y 6 rfl (wt0 rfl) rfl rfl rfl (by kernel_rfl) (fun _ => x_move rfl rfl) ?_
     refine w_y (v := .int .i64 (((k - 1 : Nat) : Int))) 7 rfl (wt0 rfl) rfl rfl rfl (by kernel_rfl) (fun _ => x_bin rfl rfl rfl (b_subN (a := k) (b := 1) (by omega))) ?_
     refine w_y (v := .pointer ((p).map fun q => q.add ((k - 1) * 10))) 8 rfl (wt0 rfl) rfl rfl rfl (by kernel_rfl) (fun _ => x_idxP (k - 1) (H32.rwSome (k := 0) rfl (by omega)) rfl rfl rfl Tryz.underlying98 sz102 (by omega)) ?_
     refine y_take (v := ev (cur.getD (k - 1) d)) 9 rfl (wt0 rfl) rfl rfl rfl (by kernel_rfl) (by kernel_rfl) (by kernel_rfl) (by kernel_rfl) (by kernel_rfl) H32 (fun wx H => ex_cast (x_loadRA (vs := (ev (cur.getD (k - 1) d)).cells.toList) (k - 1) (H.rwReads (k := 0) rfl) (by omega) rfl rfl Tryz.underlying102 rfl sz102 (by rw [Array.length_toList]; exact hsz _) (mV_atR hsz (by omega))) (by rw [hcs]; rfl)) ?_
     refine w_y 10 rfl (wt0 rfl) rfl rfl rfl (by kernel_rfl) (fun _ => x_move rfl rfl) ?_
     refine w_y 11 rfl (wt0 rfl) rfl rfl rfl (by kernel_rfl) (fun _ => x_move rfl rfl) ?_
     refine w_y (v := .pointer ((p).map fun q => q.add (k * 10))) 12 rfl (wt0 rfl) rfl rfl rfl (by kernel_rfl) (fun _ => x_idxP k (H32.rwSome (k := 0) rfl (by omega)) rfl rfl rfl Tryz.underlying98 sz102 (by omega)) ?_
     refine y_take (v := ev (cur.getD k d)) 13 rfl (wt0 rfl) rfl rfl rfl (by kernel_rfl) (by kernel_rfl) (by kernel_rfl) (by kernel_rfl) (by kernel_rfl) H32 (fun wx H => ex_cast (x_loadRA (vs := (ev (cur.getD k d)).cells.toList) k (H.rwReads (k := 0) rfl) (by omega) rfl rfl Tryz.underlying102 rfl sz102 (by rw [Array.length_toList]; exact hsz _) (mV_atR hsz (by omega))) (by rw [hcs]; rfl)) ?_
     refine w_y (v := .pointer ((p).map fun q => q.add (k * 10))) 14 rfl (wt0 rfl) rfl rfl rfl (by kernel_rfl) (fun _ => x_idxP k (H32.rwSome (k := 0) rfl (by omega)) rfl rfl rfl Tryz.underlying98 sz102 (by omega)) ?_
     refine y_one (i := 15) (by kernel_rfl) rfl ?_
     refine s_storeW (j := k) H32 0 (wt0 rfl) rfl rfl rfl rfl rfl (by rw [hsz]; exact sz102) (hsz _) (ho _) (by omega) ?_
     intro wq33 H34
     rw [mV_set hsz (cur.getD (k - 1) d) (by first | omega | (simp only [List.length_set]; omega))] at H34
     replace H34 : S wq33 [Rw 102 10 p nn cc (mV ev (cur.set k (cur.getD (k - 1) d))), X, Old w (fps [Rw 102 10 p nn cc (mV ev z), X])] := H34
     refine y_kt rfl (H34.mask [false, true, true]) ?_
     refine w_y (v := .pointer ((p).map fun q => q.add ((k - 1) * 10))) 16 rfl (wt0 rfl) rfl rfl rfl (by kernel_rfl) (fun _ => x_idxP (k - 1) (H34.rwSome (k := 0) rfl (by omega)) rfl rfl rfl Tryz.underlying98 sz102 (by omega)) ?_
     refine y_one (i := 17) (by kernel_rfl) rfl ?_
     refine s_storeW (j := (k - 1)) H34 0 (wt0 rfl) rfl rfl rfl rfl rfl (by rw [hsz]; exact sz102) (hsz _) (ho _) (by omega) ?_
     intro wq35 H36
     rw [mV_set hsz (cur.getD k d) (by first | omega | (simp only [List.length_set]; omega))] at H36
     replace H36 : S wq35 [Rw 102 10 p nn cc (mV ev ((cur.set k (cur.getD (k - 1) d)).set (k - 1) (cur.getD k d))), X, Old w (fps [Rw 102 10 p nn cc (mV ev z), X])] := H36
     refine y_kt rfl (H36.mask [false, true, true]) ?_
     refine y_done (by kernel_rfl) ?_
     refine g_in ?_
     refine g_then ?_
     refine g_weak [(0, .slice p nn cc), (14, .int .i64 ((st : Int))), (17, .int .i64 ((k : Int)))] ⟨rfl, rfl, rfl, trivial⟩ ?_
     refine g_region ?_
     refine w_m ?_
     refine w_b (v := .int .i64 (((k - 1 : Nat) : Int))) (hb := (b_subN (a := k) (b := 1) (by omega))) ?_
     refine w_a ?_
     refine w_e ?_
     refine g_round (i := (k, cur)) ((k - 1), ((cur.set k (cur.getD (k - 1) d)).set (k - 1) (cur.getD k d))) ?_ ?_ ?_
     · exact ⟨rfl, rfl, rfl, trivial⟩
     · exact ⟨(by omega), (by simp only [List.length_set]; exact hcl), ((shL_go (by omega)).symm.trans hR), (H36.takes [0, 1, 2] (by decide))⟩
     · (try dsimp only); omega
    ·
     refine g_cond_f rfl (decide_eq_false hb30) ?_
     refine g_exit ?_
     refine g_then_exit ?_
     refine g_then_exit ?_
     refine g_in_hit ?_
     refine g_then ?_
     refine g_ret ?_
     refine g_then_ret ?_
     refine fin_ret [] [] rfl trivial ?_
     exact ⟨rfl, by rw [symS_two (by omega) (by omega), ← hst, ← hR, shL_end (by omega)]; exact (H29.takes [0, 1, 2] (by decide))⟩
  ·
   refine g_cond_f rfl (decide_eq_false hb19) ?_
   refine g_skip ?_
   refine g_then ?_
   refine w_s ?_
   refine w_r2 ?_
   refine w_b (v := .int .i64 (((a + b : Nat) : Int))) (hb := (b_addN (a := a) (b := b) (by omega))) ?_
   refine w_v (v := .int .u64 (((a + b : Nat) : Int))) (x_conv rfl rfl Tryz.underlying3 Tryz.underlying135 (wrapU (by omega))) ?_
   refine w_b (v := .int .u64 ((((a + b) / 2 : Nat) : Int))) (hb := (b_shrN (a := a + b) (n := 1) (by decide))) ?_
   refine w_v (v := .int .i64 ((((a + b) / 2 : Nat) : Int))) (x_conv rfl rfl Tryz.underlying135 Tryz.underlying3 (w64 (by omega))) ?_
   refine w_a ?_
   refine w_e ?_
   refine g_weak [(0, .slice p nn cc), (1, .int .i64 ((a : Int))), (2, .int .i64 ((m : Int))), (3, .int .i64 ((b : Int))), (4, .func (.func gc) fi ca), (18, .int .i64 ((((a + b) / 2 : Nat) : Int)))] ⟨rfl, rfl, rfl, rfl, rfl, rfl, trivial⟩ ?_
   refine w_s ?_
   refine w_r2 ?_
   refine w_b (v := .int .i64 (((((a + b) / 2) + m : Nat) : Int))) (hb := (b_addN (a := ((a + b) / 2)) (b := m) (by omega))) ?_
   refine w_a ?_
   refine w_e ?_
   refine w_s ?_
   refine w_r2 ?_
   refine w_e ?_
   refine g_seq ?_
   refine g_cut (ι := Nat × Nat) (fun (s0, r0) => [(0, .slice p nn cc), (1, .int .i64 ((a : Int))), (2, .int .i64 ((m : Int))), (3, .int .i64 ((b : Int))), (4, .func (.func gc) fi ca), (18, .int .i64 ((((a + b) / 2 : Nat) : Int))), (19, .int .i64 (((((a + b) / 2) + m : Nat) : Int))), (20, .int .i64 ((s0 : Int))), (21, .int .i64 ((r0 : Int)))]) (fun (s0, r0) wx => (s0 = if (a + b) / 2 < m then (a + b) / 2 + m - b else a) ∧ (r0 = if (a + b) / 2 < m then (a + b) / 2 else m) ∧ S wx [Rw 102 10 p nn cc (mV ev z), X, Old w (fps [Rw 102 10 p nn cc (mV ev z), X])]) ?_ ?_
   ·
    refine w_s ?_
    refine w_r2 ?_
    refine w_b ?_
    refine w_e ?_
    by_cases hb37 : ((((a + b) / 2 : Nat) : Int) : Int) < (m : Int)
    ·
     refine g_cond_t rfl (decide_eq_true hb37) ?_
     refine w_s ?_
     refine w_r2 ?_
     refine w_b (v := .int .i64 ((((a + b) / 2 + m - b : Nat) : Int))) (hb := (b_subN (a := (a + b) / 2 + m) (b := b) (by omega))) ?_
     refine w_a ?_
     refine w_e ?_
     refine g_region ?_
     refine w_r2 ?_
     refine w_e ?_
     refine g_mid (((a + b) / 2 + m - b), ((a + b) / 2)) ?_ ?_
     · exact ⟨rfl, rfl, rfl, rfl, rfl, rfl, rfl, rfl, rfl, trivial⟩
     · exact ⟨((if_pos (by omega)).symm), ((if_pos (by omega)).symm), H0⟩
    ·
     refine g_cond_f rfl (decide_eq_false hb37) ?_
     refine w_s ?_
     refine w_r2 ?_
     refine w_e ?_
     refine g_region ?_
     refine w_r2 ?_
     refine w_e ?_
     refine g_mid (a, m) ?_ ?_
     · exact ⟨rfl, rfl, rfl, rfl, rfl, rfl, rfl, rfl, rfl, trivial⟩
     · exact ⟨((if_neg (by omega)).symm), ((if_neg (by omega)).symm), H0⟩
   rintro ⟨s0, r0⟩ wq38 ⟨hs0, hr0, H39⟩
   refine g_weak [(0, .slice p nn cc), (1, .int .i64 ((a : Int))), (2, .int .i64 ((m : Int))), (3, .int .i64 ((b : Int))), (4, .func (.func gc) fi ca), (18, .int .i64 ((((a + b) / 2 : Nat) : Int))), (19, .int .i64 (((((a + b) / 2) + m : Nat) : Int))), (20, .int .i64 ((s0 : Int))), (21, .int .i64 ((r0 : Int)))] ⟨rfl, rfl, rfl, rfl, rfl, rfl, rfl, rfl, rfl, trivial⟩ ?_
   refine w_s ?_
   refine w_m ?_
   refine w_b (v := .int .i64 ((((a + b) / 2 + m - 1 : Nat) : Int))) (hb := (b_subN (a := (a + b) / 2 + m) (b := 1) (by omega))) ?_
   refine w_a ?_
   refine w_e ?_
   refine g_seq ?_
   refine g_block ?_
   obtain ⟨hb1, hb2, hb3, hb4, hb5⟩ := sym_bnd ham hmb hs0 hr0
   refine g_loop (ι := Nat × Nat × Nat) (fun (n9, s, r) => [(0, .slice p nn cc), (1, .int .i64 ((a : Int))), (2, .int .i64 ((m : Int))), (3, .int .i64 ((b : Int))), (4, .func (.func gc) fi ca), (18, .int .i64 ((((a + b) / 2 : Nat) : Int))), (19, .int .i64 (((((a + b) / 2) + m : Nat) : Int))), (20, .int .i64 ((s : Int))), (21, .int .i64 ((r : Int))), (22, .int .i64 ((((a + b) / 2 + m - 1 : Nat) : Int)))]) (fun (n9, s, r) wx => (s0 ≤ s ∧ s ≤ r ∧ r ≤ r0) ∧ (r - s ≤ n9) ∧ (bsS (fun h => !decide (c (z.getD ((a + b) / 2 + m - 1 - h) d) (z.getD h d) < 0)) n9 s r = bsS (fun h => !decide (c (z.getD ((a + b) / 2 + m - 1 - h) d) (z.getD h d) < 0)) (r0 - s0) s0 r0) ∧ S wx [Rw 102 10 p nn cc (mV ev z), X, Old w (fps [Rw 102 10 p nn cc (mV ev z), X])]) (fun (n9, s, r) => r - s) ((r0 - s0), s0, r0) ⟨rfl, rfl, rfl, rfl, rfl, rfl, rfl, rfl, rfl, rfl, trivial⟩ ⟨(by omega), (Nat.le_refl _), rfl, (H39.takes [0, 1, 2] (by decide))⟩ ?_
   rintro ⟨n9, s, r⟩ wq40 ⟨hij, hn9, hbs, H41⟩
   refine g_weak [(0, .slice p nn cc), (1, .int .i64 ((a : Int))), (2, .int .i64 ((m : Int))), (3, .int .i64 ((b : Int))), (4, .func (.func gc) fi ca), (18, .int .i64 ((((a + b) / 2 : Nat) : Int))), (19, .int .i64 (((((a + b) / 2) + m : Nat) : Int))), (20, .int .i64 ((s : Int))), (21, .int .i64 ((r : Int))), (22, .int .i64 ((((a + b) / 2 + m - 1 : Nat) : Int)))] ⟨rfl, rfl, rfl, rfl, rfl, rfl, rfl, rfl, rfl, rfl, trivial⟩ ?_
   refine g_seq ?_
   refine w_s ?_
   refine w_r2 ?_
   refine w_b ?_
   refine w_e ?_
   by_cases hb42 : ((s : Int) : Int) < (r : Int)
   ·
    refine g_cond_t rfl (decide_eq_true hb42) ?_
    refine g_skip ?_
    refine g_then ?_
    refine g_block ?_
    refine w_s ?_
    refine w_r2 ?_
    refine w_b (v := .int .i64 (((s + r : Nat) : Int))) (hb := (b_addN (a := s) (b := r) (by omega))) ?_
    refine w_v (v := .int .u64 (((s + r : Nat) : Int))) (x_conv rfl rfl Tryz.underlying3 Tryz.underlying135 (wrapU (by omega))) ?_
    refine w_b (v := .int .u64 ((((s + r) / 2 : Nat) : Int))) (hb := (b_shrN (a := s + r) (n := 1) (by decide))) ?_
    refine w_v (v := .int .i64 ((((s + r) / 2 : Nat) : Int))) (x_conv rfl rfl Tryz.underlying135 Tryz.underlying3 (w64 (by omega))) ?_
    refine w_a ?_
    refine w_e ?_
    refine g_seq ?_
    refine g_any [] (fun wx => S wx [Rw 102 10 p nn cc (mV ev z), X, Old w (fps [Rw 102 10 p nn cc (mV ev z), X])]) [] (by kernel_rfl) H41 (fun wq43 H44 => ?_)
    refine w_t 0 rfl H44 (fun _ _ => xm) ?_
    refine w_t 1 rfl H44 (fun _ _ => xm) ?_
    refine w_t 2 rfl H44 (fun _ _ => xm) ?_
    refine w_t 3 rfl H44 (fun _ _ => xm) ?_
    refine w_t (v := .int .i64 ((((a + b) / 2 + m - 1 - (s + r) / 2 : Nat) : Int))) 4 rfl H44 (fun _ _ => x_bin rfl rfl rfl (b_subN (a := (a + b) / 2 + m - 1) (b := (s + r) / 2) (by omega))) ?_
    refine w_t (v := .pointer ((p).map fun q => q.add (((a + b) / 2 + m - 1 - (s + r) / 2) * 10))) 5 rfl H44 (fun _ _ => x_idxP ((a + b) / 2 + m - 1 - (s + r) / 2) (H44.rwSome (k := 0) rfl (by omega)) rfl rfl rfl Tryz.underlying98 sz102 (by omega)) ?_
    refine w_t (v := ev (z.getD ((a + b) / 2 + m - 1 - (s + r) / 2) d)) 6 rfl H44 (fun _ H => ex_cast (x_loadRA (vs := (ev (z.getD ((a + b) / 2 + m - 1 - (s + r) / 2) d)).cells.toList) ((a + b) / 2 + m - 1 - (s + r) / 2) (H.rwReads (k := 0) rfl) (by omega) rfl rfl Tryz.underlying102 rfl sz102 (by rw [Array.length_toList]; exact hsz _) (mV_atR hsz (by omega))) (by rw [hcs]; rfl)) ?_
    refine w_t 7 rfl H44 (fun _ _ => xm) ?_
    refine w_t 8 rfl H44 (fun _ _ => xm) ?_
    refine w_t (v := .pointer ((p).map fun q => q.add (((s + r) / 2) * 10))) 9 rfl H44 (fun _ _ => x_idxP ((s + r) / 2) (H44.rwSome (k := 0) rfl (by omega)) rfl rfl rfl Tryz.underlying98 sz102 (by omega)) ?_
    refine w_t (v := ev (z.getD ((s + r) / 2) d)) 10 rfl H44 (fun _ H => ex_cast (x_loadRA (vs := (ev (z.getD ((s + r) / 2) d)).cells.toList) ((s + r) / 2) (H.rwReads (k := 0) rfl) (by omega) rfl rfl Tryz.underlying102 rfl sz102 (by rw [Array.length_toList]; exact hsz _) (mV_atR hsz (by omega))) (by rw [hcs]; rfl)) ?_
    refine a_one (i := 11) (by kernel_rfl) rfl ?_
    refine s_call (wt0 rfl) (x_call rfl rfl rfl hc.ok) (hc.does _ (hpm _ (getD_mem (by omega))) _ (hpm _ (getD_mem (by omega))) _ (H44.takes [1] (by decide))) ?_
    rintro _ wq45 ⟨rfl, H46⟩
    replace H46 : S wq45 [X, Rw 102 10 p nn cc (mV ev z), Old w (fps [Rw 102 10 p nn cc (mV ev z), X])] := by have h := H44.absorbI [1] H46; exact h
    refine b_ret rfl rfl ?_
    refine a_k (H46.takes [1, 0, 2] (by decide)) ?_
    refine w_t 12 rfl (H46.takes [1, 0, 2] (by decide)) (fun _ _ => x_bin rfl rfl rfl b_lss) ?_
    refine w_t (v := .bool (!decide (((c (z.getD ((a + b) / 2 + m - 1 - (s + r) / 2) d) (z.getD ((s + r) / 2) d)) : Int) < 0))) 13 rfl (H46.takes [1, 0, 2] (by decide)) (fun _ _ => x_not (b := decide (((c (z.getD ((a + b) / 2 + m - 1 - (s + r) / 2) d) (z.getD ((s + r) / 2) d)) : Int) < 0)) rfl rfl) ?_
    refine a_done (by kernel_rfl) ?_
    refine g_then ?_
    refine g_weak [(0, .slice p nn cc), (1, .int .i64 ((a : Int))), (2, .int .i64 ((m : Int))), (3, .int .i64 ((b : Int))), (4, .func (.func gc) fi ca), (18, .int .i64 ((((a + b) / 2 : Nat) : Int))), (19, .int .i64 (((((a + b) / 2) + m : Nat) : Int))), (20, .int .i64 ((s : Int))), (21, .int .i64 ((r : Int))), (22, .int .i64 ((((a + b) / 2 + m - 1 : Nat) : Int))), (23, .int .i64 ((((s + r) / 2 : Nat) : Int))), (171, .bool (!decide (((c (z.getD ((a + b) / 2 + m - 1 - (s + r) / 2) d) (z.getD ((s + r) / 2) d)) : Int) < 0)))] ⟨rfl, rfl, rfl, rfl, rfl, rfl, rfl, rfl, rfl, rfl, rfl, rfl, trivial⟩ ?_
    by_cases hb47 : ((c (z.getD ((a + b) / 2 + m - 1 - (s + r) / 2) d) (z.getD ((s + r) / 2) d)) : Int) < 0
    ·
     refine g_cond_f rfl (nf hb47) ?_
     refine g_region ?_
     refine w_r2 ?_
     refine g_nil ?_
     refine g_in ?_
     refine g_then ?_
     refine g_round (i := (n9, s, r)) ((n9 - 1), s, ((s + r) / 2)) ?_ ?_ ?_
     · exact ⟨rfl, rfl, rfl, rfl, rfl, rfl, rfl, rfl, rfl, rfl, trivial⟩
     · exact ⟨(by omega), (by omega), ((bsS_f (by omega) hn9 (nf hb47)).symm.trans hbs), (H46.takes [1, 0, 2] (by decide))⟩
     · (try dsimp only); omega
    ·
     refine g_cond_t rfl (nt hb47) ?_
     refine g_region ?_
     refine w_m ?_
     refine w_b (v := .int .i64 (((((s + r) / 2) + 1 : Nat) : Int))) (hb := (b_addN (a := ((s + r) / 2)) (b := 1) (by omega))) ?_
     refine w_a ?_
     refine g_nil ?_
     refine g_in ?_
     refine g_then ?_
     refine g_round (i := (n9, s, r)) ((n9 - 1), ((s + r) / 2 + 1), r) ?_ ?_ ?_
     · exact ⟨rfl, rfl, rfl, rfl, rfl, rfl, rfl, rfl, rfl, rfl, trivial⟩
     · exact ⟨(by omega), (by omega), ((bsS_t (by omega) hn9 (nt hb47)).symm.trans hbs), (H46.takes [1, 0, 2] (by decide))⟩
     · (try dsimp only); omega
   ·
    refine g_cond_f rfl (decide_eq_false hb42) ?_
    refine g_exit ?_
    have hst : s = bsS (fun h => !decide (c (z.getD ((a + b) / 2 + m - 1 - h) d) (z.getD h d) < 0)) (r0 - s0) s0 r0 := (bsS_done (by omega)).symm.trans hbs
    obtain ⟨st, hst2⟩ : ∃ st, st = s := ⟨_, rfl⟩
    rw [← hst2] at hst
    have hst3 : s0 ≤ st ∧ st ≤ r0 := by omega
    rw [show s = st from hst2.symm]
    refine g_then_exit ?_
    refine g_then_exit ?_
    refine g_in_hit ?_
    refine g_then ?_
    refine w_s ?_
    refine w_r2 ?_
    obtain ⟨en, hen⟩ : ∃ en, en = (a + b) / 2 + m - st := ⟨_, rfl⟩
    have hen2 : m ≤ en ∧ en ≤ b ∧ a ≤ st ∧ st ≤ m ∧ st ≤ (a + b) / 2 ∧ (a + b) / 2 ≤ en ∧ ((st < m ∧ m < en) → en - st < b - a + 1) := by omega
    refine w_v (v := .int .i64 ((en : Int))) (ex_cast (x_bin rfl rfl rfl (b_subN (a := (a + b) / 2 + m) (b := st) (by omega))) (by rw [hen])) ?_
    refine w_a ?_
    refine w_e ?_
    refine g_seq ?_
    refine g_cut (ι := List β) (fun l1 => [(0, .slice p nn cc), (1, .int .i64 ((a : Int))), (3, .int .i64 ((b : Int))), (4, .func (.func gc) fi ca), (18, .int .i64 ((((a + b) / 2 : Nat) : Int))), (20, .int .i64 ((st : Int))), (24, .int .i64 ((en : Int)))]) (fun l1 wx => (l1 = if st < m ∧ m < en then rotS d m (en - st) (m - st) (en - m) z else z) ∧ (l1.length = nn) ∧ (l1.Perm zall) ∧ S wx [Rw 102 10 p nn cc (mV ev l1), X, Old w (fps [Rw 102 10 p nn cc (mV ev z), X])]) ?_ ?_
    ·
     refine w_s ?_
     refine w_r2 ?_
     refine w_b ?_
     refine w_m ?_
     by_cases hb48 : ((st : Int) : Int) < (m : Int)
     ·
      refine w_g (decide_eq_true hb48) xm ?_
      refine w_g (decide_eq_true hb48) xm ?_
      refine w_g (decide_eq_true hb48) (x_bin rfl rfl rfl b_lss) ?_
      refine w_v (v := .bool (decide (((m : Int) : Int) < (en : Int)))) (x_pick_t rfl rfl (decide_eq_true hb48) rfl) ?_
      refine w_e ?_
      refine g_weak [(0, .slice p nn cc), (1, .int .i64 ((a : Int))), (2, .int .i64 ((m : Int))), (3, .int .i64 ((b : Int))), (4, .func (.func gc) fi ca), (18, .int .i64 ((((a + b) / 2 : Nat) : Int))), (20, .int .i64 ((st : Int))), (24, .int .i64 ((en : Int))), (185, .bool (decide (((m : Int) : Int) < (en : Int))))] ⟨rfl, rfl, rfl, rfl, rfl, rfl, rfl, rfl, rfl, trivial⟩ ?_
      by_cases hb49 : ((m : Int) : Int) < (en : Int)
      ·
       refine g_cond_t rfl (decide_eq_true hb49) ?_
       refine g_region ?_
       refine w_r5 ?_
       refine l_of (s_call (wt0 rfl) (x_call' rfl rfl cl140) (rotS_s d ev cs hcs hsz ho z nn hz p cc hm st m en (by omega) (by omega) (by omega) (.func (.func gc) fi ca) _ (H41.takes [0] (by decide))) ?_)
       rintro _ wq50 ⟨rfl, H51⟩
       replace H51 : S wq50 [Rw 102 10 p nn cc (mV ev (rotS d m (en - st) (m - st) (en - m) z)), X, Old w (fps [Rw 102 10 p nn cc (mV ev z), X])] := by have h := H41.absorbI [0] H51; exact h
       refine b_ret rfl rfl ?_
       refine w_e ?_
       refine g_mid ((rotS d m (en - st) (m - st) (en - m) z)) ?_ ?_
       · exact ⟨rfl, rfl, rfl, rfl, rfl, rfl, rfl, trivial⟩
       · exact ⟨((if_pos (by omega)).symm), (by rw [(rotS_mv (a := a) (b := b) (by omega) (by omega) (by omega) (by omega) (by omega) (by omega)).len]; exact hz), ((rotS_mv (a := a) (b := b) (by omega) (by omega) (by omega) (by omega) (by omega) (by omega)).1.trans hpp), H51⟩
      ·
       refine g_cond_f rfl (decide_eq_false hb49) ?_
       refine g_skip ?_
       refine g_then ?_
       refine g_mid (z) ?_ ?_
       · exact ⟨rfl, rfl, rfl, rfl, rfl, rfl, rfl, trivial⟩
       · exact ⟨((if_neg (by omega)).symm), hz, hpp, H41⟩
     ·
      refine w_n (decide_eq_false hb48) ?_
      refine w_n (decide_eq_false hb48) ?_
      refine w_n (decide_eq_false hb48) ?_
      refine w_v (v := .bool false) (x_pick_f rfl rfl (decide_eq_false hb48) rfl) ?_
      refine w_e ?_
      refine g_weak [(0, .slice p nn cc), (1, .int .i64 ((a : Int))), (2, .int .i64 ((m : Int))), (3, .int .i64 ((b : Int))), (4, .func (.func gc) fi ca), (18, .int .i64 ((((a + b) / 2 : Nat) : Int))), (20, .int .i64 ((st : Int))), (24, .int .i64 ((en : Int))), (185, .bool false)] ⟨rfl, rfl, rfl, rfl, rfl, rfl, rfl, rfl, rfl, trivial⟩ ?_
      refine g_cond_f rfl rfl ?_
      refine g_skip ?_
      refine g_then ?_
      refine g_mid (z) ?_ ?_
      · exact ⟨rfl, rfl, rfl, rfl, rfl, rfl, rfl, trivial⟩
      · exact ⟨((if_neg (by omega)).symm), hz, hpp, H41⟩
    rintro l1 wq52 ⟨he1, hl1, hp1, H53⟩
    refine g_weak [(0, .slice p nn cc), (1, .int .i64 ((a : Int))), (3, .int .i64 ((b : Int))), (4, .func (.func gc) fi ca), (18, .int .i64 ((((a + b) / 2 : Nat) : Int))), (20, .int .i64 ((st : Int))), (24, .int .i64 ((en : Int)))] ⟨rfl, rfl, rfl, rfl, rfl, rfl, rfl, trivial⟩ ?_
    refine g_seq ?_
    refine g_cut (ι := List β) (fun l2 => [(0, .slice p nn cc), (3, .int .i64 ((b : Int))), (4, .func (.func gc) fi ca), (18, .int .i64 ((((a + b) / 2 : Nat) : Int))), (24, .int .i64 ((en : Int)))]) (fun l2 wx => (l2 = if a < st ∧ st < (a + b) / 2 then symS d c n a st ((a + b) / 2) l1 else l1) ∧ (l2.length = nn) ∧ (l2.Perm zall) ∧ S wx [Rw 102 10 p nn cc (mV ev l2), X, Old w (fps [Rw 102 10 p nn cc (mV ev z), X])]) ?_ ?_
    ·
     refine w_s ?_
     refine w_r2 ?_
     refine w_b ?_
     refine w_m ?_
     by_cases hb54 : ((a : Int) : Int) < (st : Int)
     ·
      refine w_g (decide_eq_true hb54) xm ?_
      refine w_g (decide_eq_true hb54) xm ?_
      refine w_g (decide_eq_true hb54) (x_bin rfl rfl rfl b_lss) ?_
      refine w_v (v := .bool (decide (((st : Int) : Int) < (((a + b) / 2 : Nat) : Int)))) (x_pick_t rfl rfl (decide_eq_true hb54) rfl) ?_
      refine w_e ?_
      by_cases hb55 : ((st : Int) : Int) < (((a + b) / 2 : Nat) : Int)
      ·
       refine g_cond_t rfl (decide_eq_true hb55) ?_
       refine g_region ?_
       refine w_r5 ?_
       refine l_of (s_call (wt0 rfl) (x_call' rfl rfl cl132) (ih l1 hl1 hp1 a st ((a + b) / 2) (by omega) (by omega) (by omega) (by omega) _ (H53.takes [0, 1] (by decide))) ?_)
       rintro _ wq56 ⟨rfl, H57⟩
       replace H57 : S wq56 [Rw 102 10 p nn cc (mV ev (symS d c n a st ((a + b) / 2) l1)), X, Old w (fps [Rw 102 10 p nn cc (mV ev z), X])] := by have h := H53.absorbI [0, 1] H57; exact h
       refine b_ret rfl rfl ?_
       refine w_e ?_
       refine g_mid ((symS d c n a st ((a + b) / 2) l1)) ?_ ?_
       · exact ⟨rfl, rfl, rfl, rfl, rfl, trivial⟩
       · exact ⟨((if_pos (by omega)).symm), (by rw [(symS_mv (by omega) (by omega) (by omega) (by omega)).len]; exact hl1), ((symS_mv (by omega) (by omega) (by omega) (by omega)).1.trans hp1), H57⟩
      ·
       refine g_cond_f rfl (decide_eq_false hb55) ?_
       refine g_skip ?_
       refine g_then ?_
       refine g_mid (l1) ?_ ?_
       · exact ⟨rfl, rfl, rfl, rfl, rfl, trivial⟩
       · exact ⟨((if_neg (by omega)).symm), hl1, hp1, H53⟩
     ·
      refine w_n (decide_eq_false hb54) ?_
      refine w_n (decide_eq_false hb54) ?_
      refine w_n (decide_eq_false hb54) ?_
      refine w_v (v := .bool false) (x_pick_f rfl rfl (decide_eq_false hb54) rfl) ?_
      refine w_e ?_
      refine g_cond_f rfl rfl ?_
      refine g_skip ?_
      refine g_then ?_
      refine g_mid (l1) ?_ ?_
      · exact ⟨rfl, rfl, rfl, rfl, rfl, trivial⟩
      · exact ⟨((if_neg (by omega)).symm), hl1, hp1, H53⟩
    rintro l2 wq58 ⟨he2, hl2, hp2, H59⟩
    refine g_weak [(0, .slice p nn cc), (3, .int .i64 ((b : Int))), (4, .func (.func gc) fi ca), (18, .int .i64 ((((a + b) / 2 : Nat) : Int))), (24, .int .i64 ((en : Int)))] ⟨rfl, rfl, rfl, rfl, rfl, trivial⟩ ?_
    refine w_s ?_
    refine w_r2 ?_
    refine w_b ?_
    refine w_m ?_
    by_cases hb60 : ((((a + b) / 2 : Nat) : Int) : Int) < (en : Int)
    ·
     refine w_g (decide_eq_true hb60) xm ?_
     refine w_g (decide_eq_true hb60) xm ?_
     refine w_g (decide_eq_true hb60) (x_bin rfl rfl rfl b_lss) ?_
     refine w_v (v := .bool (decide (((en : Int) : Int) < (b : Int)))) (x_pick_t rfl rfl (decide_eq_true hb60) rfl) ?_
     refine w_e ?_
     by_cases hb61 : ((en : Int) : Int) < (b : Int)
     ·
      refine g_cond_t rfl (decide_eq_true hb61) ?_
      refine g_region ?_
      refine w_r5 ?_
      refine l_of (s_call (wt0 rfl) (x_call' rfl rfl cl132) (ih l2 hl2 hp2 ((a + b) / 2) en b (by omega) (by omega) (by omega) (by omega) _ (H59.takes [0, 1] (by decide))) ?_)
      rintro _ wq62 ⟨rfl, H63⟩
      replace H63 : S wq62 [Rw 102 10 p nn cc (mV ev (symS d c n ((a + b) / 2) en b l2)), X, Old w (fps [Rw 102 10 p nn cc (mV ev z), X])] := by have h := H59.absorbI [0, 1] H63; exact h
      refine b_ret rfl rfl ?_
      refine g_nil ?_
      refine fin_end [] [] rfl trivial ?_
      exact ⟨rfl, by rw [symS_gen (by omega) (by omega) hs0 hr0 hst.symm hen he1 he2, if_pos (by omega)]; exact (H63.takes [0, 1, 2] (by decide))⟩
     ·
      refine g_cond_f rfl (decide_eq_false hb61) ?_
      refine g_skip ?_
      refine fin_end [] [] rfl trivial ?_
      exact ⟨rfl, by rw [symS_gen (by omega) (by omega) hs0 hr0 hst.symm hen he1 he2, if_neg (by omega)]; exact (H59.takes [0, 1, 2] (by decide))⟩
    ·
     refine w_n (decide_eq_false hb60) ?_
     refine w_n (decide_eq_false hb60) ?_
     refine w_n (decide_eq_false hb60) ?_
     refine w_v (v := .bool false) (x_pick_f rfl rfl (decide_eq_false hb60) rfl) ?_
     refine w_e ?_
     refine g_cond_f rfl rfl ?_
     refine g_skip ?_
     refine fin_end [] [] rfl trivial ?_
     exact ⟨rfl, by rw [symS_gen (by omega) (by omega) hs0 hr0 hst.symm hen he1 he2, if_neg (by omega)]; exact (H59.takes [0, 1, 2] (by decide))⟩
theorem symS_s {β : Type} (d : β) (ev : β → Value) (cs : β → Array Value) (hcs : ∀ x, ev x = .agg (cs x)) (hsz : ∀ x, (ev x).cells.size = 10) (ho : ∀ x, (ev x).cells.toList.all (·.oneCell') = true) (zall : List β) (nn : Nat) (p : Option Addr) (cc : Nat) (hm : nn ≤ 1099511627776) (c : β → β → Int) (gc : Nat) (fi ca : Array Value) (X : Item) (hc : Cmps Tryz.prog gc fi ca X ev c zall) : ∀ n, Sym_s d ev gc fi ca c X zall nn p cc n
  | 0 => fun z _ _ a m b h1 h2 h3 h4 => absurd h4 (by omega)
  | n + 1 => fun z hz hpp a m b h1 h2 h3 h4 w HS => symS_s_step d ev cs hcs hsz ho z nn hz p cc hm c gc fi ca X zall hpp hc n (symS_s d ev cs hcs hsz ho zall nn p cc hm c gc fi ca X hc n) a m b h1 h2 h3 h4 w HS
end Go.Proofs.YtpbjekdjebjbkaaGreat
namespace Go.Proofs.YtpbjekdjebjbkaaGreat
open Go.RowKit

theorem cl114 : callable Tryz.prog 114 = true := by kernel_rfl
theorem cl131 : callable Tryz.prog 131 = true := by kernel_rfl
theorem Cmps.perm {P : Program} {g : Nat} {fi ca : Array Value} {X : Item} {β : Type} {ev : β → Value} {c : β → β → Int} {l l' : List β} (h : Cmps P g fi ca X ev c l) (hp : l'.Perm l) : Cmps P g fi ca X ev c l' :=
  ⟨h.ok, fun x hx y hy w HS => h.does x ((hp.mem_iff).1 hx) y ((hp.mem_iff).1 hy) w HS⟩
theorem insB_go {β : Type} {d : β} {c : β → β → Int} {s n k a : Nat} {l : List β} (h : a + s ≤ n) (hk : 1 ≤ k) : insB d c s n k a l = insB d c s n (k - 1) (a + s) (insS d c a (a + s) l) := by
  obtain ⟨j, rfl⟩ : ∃ j, k = j + 1 := ⟨k - 1, by omega⟩
  conv => lhs; unfold insB
  rw [if_pos h]; rfl
theorem insB_end {β : Type} {d : β} {c : β → β → Int} {s n k a : Nat} {l : List β} (h : ¬ a + s ≤ n) : insB d c s n k a l = insS d c a n l := by
  cases k with
  | zero => rfl
  | succ k => unfold insB; rw [if_neg h]
theorem symB_go {β : Type} {d : β} {c : β → β → Int} {s n k a : Nat} {l : List β} (h : a + 2 * s ≤ n) (hk : 1 ≤ k) : symB d c s n k a l = symB d c s n (k - 1) (a + 2 * s) (symS d c (2 * s) a (a + s) (a + 2 * s) l) := by
  obtain ⟨j, rfl⟩ : ∃ j, k = j + 1 := ⟨k - 1, by omega⟩
  conv => lhs; unfold symB
  rw [if_pos h]; rfl
theorem symB_end {β : Type} {d : β} {c : β → β → Int} {s n k a : Nat} {l : List β} (h : ¬ a + 2 * s ≤ n) : symB d c s n k a l = if a + s < n then symS d c (n - a) a (a + s) n l else l := by
  cases k with
  | zero => rfl
  | succ k => unfold symB; rw [if_neg h]
theorem symA_go {β : Type} {d : β} {c : β → β → Int} {n k s : Nat} {l : List β} (h : s < n) (hk : 1 ≤ k) : symA d c n k s l = symA d c n (k - 1) (2 * s) (symB d c s n n 0 l) := by
  obtain ⟨j, rfl⟩ : ∃ j, k = j + 1 := ⟨k - 1, by omega⟩
  conv => lhs; unfold symA
  rw [if_pos h]; rfl
theorem symA_end {β : Type} {d : β} {c : β → β → Int} {n k s : Nat} {l : List β} (h : ¬ s < n) : symA d c n k s l = l := by
  cases k with
  | zero => rfl
  | succ k => unfold symA; rw [if_neg h]
set_option maxRecDepth 20000 in
set_option maxHeartbeats 4000000 in
theorem stable0_s {β : Type} (d : β) (ev : β → Value) (cs : β → Array Value) (hcs : ∀ x, ev x = .agg (cs x)) (hsz : ∀ x, (ev x).cells.size = 10) (ho : ∀ x, (ev x).cells.toList.all (·.oneCell') = true) (z : List β) (nn : Nat) (hz : z.length = nn) (p : Option Addr) (cc : Nat) (hm : nn ≤ 1099511627776) (c : β → β → Int) (gc : Nat) (fi ca : Array Value) (X : Item) (hc : Cmps Tryz.prog gc fi ca X ev c z)  (w : World) (HS : S w [Rw 102 10 p nn cc (mV ev z), X]) : Calls Tryz.prog 114 #[.slice p nn cc, .int .i64 ((nn : Int)), .func (.func gc) fi ca] w fun e w' => e = .returned (.tuple #[]) ∧ S w' ([Rw 102 10 p nn cc (mV ev (stableS d c z)), X] ++ [Old w (fps [Rw 102 10 p nn cc (mV ev z), X])]) := by
 have H0 := HS.beginI
 refine enter 63 Tryz.func114 rfl rfl rfl ?_
 refine g_weak [(0, .slice p nn cc), (1, .int .i64 ((nn : Int))), (2, .func (.func gc) fi ca)] ⟨rfl, rfl, rfl, trivial⟩ ?_
 refine w_s ?_
 refine w_a ?_
 refine w_e ?_
 refine w_s ?_
 refine w_r3 ?_
 refine w_e ?_
 refine g_seq ?_
 refine g_block ?_
 refine g_loop (ι := Nat × Nat × List β) (fun (k, a, cur) => [(0, .slice p nn cc), (1, .int .i64 ((nn : Int))), (2, .func (.func gc) fi ca), (6, .int .i64 20), (7, .int .i64 ((a : Int))), (8, .int .i64 (((a + 20 : Nat) : Int)))]) (fun (k, a, cur) wx => (a ≤ nn) ∧ (nn ≤ a + k) ∧ (cur.length = nn) ∧ (cur.Perm z) ∧ (insB d c 20 nn k a cur = insB d c 20 nn nn 0 z) ∧ S wx [Rw 102 10 p nn cc (mV ev cur), X, Old w (fps [Rw 102 10 p nn cc (mV ev z), X])]) (fun (k, a, cur) => nn - a) (nn, 0, z) ⟨rfl, rfl, rfl, rfl, rfl, rfl, trivial⟩ ⟨(Nat.zero_le _), (by omega), hz, (.refl _), rfl, (H0.takes [0, 1, 2] (by decide))⟩ ?_
 rintro ⟨k, a, cur⟩ wq1 ⟨ha, hk, hcl, hpp, hR, H2⟩
 refine g_weak [(0, .slice p nn cc), (1, .int .i64 ((nn : Int))), (2, .func (.func gc) fi ca), (6, .int .i64 20), (7, .int .i64 ((a : Int))), (8, .int .i64 (((a + 20 : Nat) : Int)))] ⟨rfl, rfl, rfl, rfl, rfl, rfl, trivial⟩ ?_
 refine g_seq ?_
 refine w_s ?_
 refine w_r2 ?_
 refine w_b ?_
 refine w_e ?_
 by_cases hb3 : (((a + 20 : Nat) : Int) : Int) ≤ (nn : Int)
 ·
  refine g_cond_t rfl (decide_eq_true hb3) ?_
  refine g_skip ?_
  refine g_then ?_
  refine g_block ?_
  refine w_s ?_
  refine w_r4 ?_
  have hl6 : (insS d c a (a + 20) cur).length = nn := by rw [(insS_mv (d := d) (c := c) (a := a) (by rw [hcl]; omega)).len]; exact hcl
  have hp7 : (insS d c a (a + 20) cur).Perm z := (insS_mv (d := d) (c := c) (a := a) (by rw [hcl]; omega)).1.trans (hpp)
  refine l_of (s_call (wt0 rfl) (x_call' rfl rfl cl131) (insS_s d ev cs hcs hsz ho cur nn hcl p cc hm c gc fi ca X (hc.perm (hpp)) a (a + 20) (by omega) (by omega) _ (H2.takes [0, 1] (by decide))) ?_)
  rintro _ wq4 ⟨rfl, H5⟩
  replace H5 : S wq4 [Rw 102 10 p nn cc (mV ev (insS d c a (a + 20) cur)), X, Old w (fps [Rw 102 10 p nn cc (mV ev z), X])] := by have h := H2.absorbI [0, 1] H5; exact h
  refine b_ret rfl rfl ?_
  refine w_e ?_
  refine w_s ?_
  refine w_r2 ?_
  refine w_e ?_
  refine g_region ?_
  refine w_r2 ?_
  refine w_b (v := .int .i64 (((a + 20 + 20 : Nat) : Int))) (hb := (b_addN (a := a + 20) (b := 20) (by omega))) ?_
  refine w_a ?_
  refine g_nil ?_
  refine g_in ?_
  refine g_then ?_
  refine g_round (i := (k, a, cur)) ((k - 1), (a + 20), (insS d c a (a + 20) cur)) ?_ ?_ ?_
  · exact ⟨rfl, rfl, rfl, rfl, rfl, rfl, trivial⟩
  · exact ⟨(by omega), (by omega), hl6, hp7, ((insB_go (by omega) (by omega)).symm.trans hR), (H5.takes [0, 1, 2] (by decide))⟩
  · (try dsimp only); omega
 ·
  refine g_cond_f rfl (decide_eq_false hb3) ?_
  refine g_exit ?_
  have hRB := (insB_end (by omega)).symm.trans hR
  refine g_then_exit ?_
  refine g_then_exit ?_
  refine g_in_hit ?_
  refine g_then ?_
  refine w_s ?_
  refine w_r4 ?_
  have hl10 : (insS d c a nn cur).length = nn := by rw [(insS_mv (d := d) (c := c) (a := a) (by rw [hcl]; omega)).len]; exact hcl
  have hp11 : (insS d c a nn cur).Perm z := (insS_mv (d := d) (c := c) (a := a) (by rw [hcl]; omega)).1.trans (hpp)
  refine l_of (s_call (wt0 rfl) (x_call' rfl rfl cl131) (insS_s d ev cs hcs hsz ho cur nn hcl p cc hm c gc fi ca X (hc.perm (hpp)) a nn (by omega) (by omega) _ (H2.takes [0, 1] (by decide))) ?_)
  rintro _ wq8 ⟨rfl, H9⟩
  replace H9 : S wq8 [Rw 102 10 p nn cc (mV ev (insS d c a nn cur)), X, Old w (fps [Rw 102 10 p nn cc (mV ev z), X])] := by have h := H2.absorbI [0, 1] H9; exact h
  refine b_ret rfl rfl ?_
  refine w_e ?_
  refine g_block ?_
  refine g_loop (ι := Nat × Nat × List β) (fun (k, s, cw) => [(0, .slice p nn cc), (1, .int .i64 ((nn : Int))), (2, .func (.func gc) fi ca), (6, .int .i64 ((s : Int)))]) (fun (k, s, cw) wx => (1 ≤ s ∧ s ≤ 2 * nn + 20) ∧ (nn ≤ s + k) ∧ (cw.length = nn) ∧ (cw.Perm z) ∧ (symA d c nn k s cw = symA d c nn nn 20 (insS d c a nn cur)) ∧ S wx [Rw 102 10 p nn cc (mV ev cw), X, Old w (fps [Rw 102 10 p nn cc (mV ev z), X])]) (fun (k, s, cw) => nn - s) (nn, 20, (insS d c a nn cur)) ⟨rfl, rfl, rfl, rfl, trivial⟩ ⟨(by omega), (by omega), hl10, hp11, rfl, (H9.takes [0, 1, 2] (by decide))⟩ ?_
  rintro ⟨k, s, cw⟩ wq12 ⟨hs, hk, hclw, hppw, hR, H13⟩
  refine g_weak [(0, .slice p nn cc), (1, .int .i64 ((nn : Int))), (2, .func (.func gc) fi ca), (6, .int .i64 ((s : Int)))] ⟨rfl, rfl, rfl, rfl, trivial⟩ ?_
  refine g_seq ?_
  refine w_s ?_
  refine w_r2 ?_
  refine w_b ?_
  refine w_e ?_
  by_cases hb14 : ((s : Int) : Int) < (nn : Int)
  ·
   refine g_cond_t rfl (decide_eq_true hb14) ?_
   refine g_skip ?_
   refine g_then ?_
   refine g_block ?_
   refine w_s ?_
   refine w_m ?_
   refine w_b (v := .int .i64 (((0 + 2 * s : Nat) : Int))) (hb := (b_mul (r := ((0 + 2 * s : Nat) : Int)) (by rw [show (2 : Int) * (s : Int) = ((0 + 2 * s : Nat) : Int) from by omega]; exact w64 (by omega)))) ?_
   refine w_r2 ?_
   refine w_e ?_
   refine g_seq ?_
   refine g_block ?_
   refine g_loop (ι := Nat × Nat × List β) (fun (k2, a, cur2) => [(0, .slice p nn cc), (1, .int .i64 ((nn : Int))), (2, .func (.func gc) fi ca), (6, .int .i64 ((s : Int))), (7, .int .i64 ((a : Int))), (8, .int .i64 (((a + 2 * s : Nat) : Int)))]) (fun (k2, a, cur2) wx => (a ≤ nn) ∧ (nn ≤ a + k2) ∧ (cur2.length = nn) ∧ (cur2.Perm z) ∧ (symB d c s nn k2 a cur2 = symB d c s nn nn 0 cw) ∧ S wx [Rw 102 10 p nn cc (mV ev cur2), X, Old w (fps [Rw 102 10 p nn cc (mV ev z), X])]) (fun (k2, a, cur2) => nn - a) (nn, 0, cw) ⟨rfl, rfl, rfl, rfl, rfl, rfl, trivial⟩ ⟨(Nat.zero_le _), (by omega), hclw, hppw, rfl, (H13.takes [0, 1, 2] (by decide))⟩ ?_
   rintro ⟨k2, a, cur2⟩ wq15 ⟨ha, hk2, hcl2, hpp2, hR2, H16⟩
   refine g_weak [(0, .slice p nn cc), (1, .int .i64 ((nn : Int))), (2, .func (.func gc) fi ca), (6, .int .i64 ((s : Int))), (7, .int .i64 ((a : Int))), (8, .int .i64 (((a + 2 * s : Nat) : Int)))] ⟨rfl, rfl, rfl, rfl, rfl, rfl, trivial⟩ ?_
   refine g_seq ?_
   refine w_s ?_
   refine w_r2 ?_
   refine w_b ?_
   refine w_e ?_
   by_cases hb17 : (((a + 2 * s : Nat) : Int) : Int) ≤ (nn : Int)
   ·
    refine g_cond_t rfl (decide_eq_true hb17) ?_
    refine g_skip ?_
    refine g_then ?_
    refine g_block ?_
    refine w_s ?_
    refine w_r4 ?_
    refine w_b (v := .int .i64 (((a + s : Nat) : Int))) (hb := (b_addN (a := a) (b := s) (by omega))) ?_
    refine w_r2 ?_
    have hl20 : (symS d c (2 * s) a (a + s) (a + 2 * s) cur2).length = nn := by rw [(symS_mv (d := d) (c := c) (n := (2 * s)) (a := a) (m := (a + s)) (b := (a + 2 * s)) (by rw [hcl2]; omega) (by omega) (by omega) (by omega)).len]; exact hcl2
    have hp21 : (symS d c (2 * s) a (a + s) (a + 2 * s) cur2).Perm z := (symS_mv (d := d) (c := c) (n := (2 * s)) (a := a) (m := (a + s)) (b := (a + 2 * s)) (by rw [hcl2]; omega) (by omega) (by omega) (by omega)).1.trans (hpp2)
    refine l_of (s_call (wt0 rfl) (x_call' rfl rfl cl132) (symS_s d ev cs hcs hsz ho z nn p cc hm c gc fi ca X hc (2 * s) cur2 hcl2 (hpp2) a (a + s) (a + 2 * s) (by omega) (by omega) (by omega) (by omega) _ (H16.takes [0, 1] (by decide))) ?_)
    rintro _ wq18 ⟨rfl, H19⟩
    replace H19 : S wq18 [Rw 102 10 p nn cc (mV ev (symS d c (2 * s) a (a + s) (a + 2 * s) cur2)), X, Old w (fps [Rw 102 10 p nn cc (mV ev z), X])] := by have h := H16.absorbI [0, 1] H19; exact h
    refine b_ret rfl rfl ?_
    refine w_e ?_
    refine g_weak [(0, .slice p nn cc), (1, .int .i64 ((nn : Int))), (2, .func (.func gc) fi ca), (6, .int .i64 ((s : Int))), (8, .int .i64 (((a + 2 * s : Nat) : Int)))] ⟨rfl, rfl, rfl, rfl, rfl, trivial⟩ ?_
    refine w_s ?_
    refine w_r2 ?_
    refine w_e ?_
    refine g_region ?_
    refine w_r2 ?_
    refine w_b (v := .int .i64 (((2 * s : Nat) : Int))) (hb := (b_mul (r := ((2 * s : Nat) : Int)) (by rw [show (2 : Int) * (s : Int) = ((2 * s : Nat) : Int) from by omega]; exact w64 (by omega)))) ?_
    refine w_b (v := .int .i64 (((a + 2 * s + 2 * s : Nat) : Int))) (hb := (b_addN (a := a + 2 * s) (b := 2 * s) (by omega))) ?_
    refine w_a ?_
    refine g_nil ?_
    refine g_in ?_
    refine g_then ?_
    refine g_round (i := (k2, a, cur2)) ((k2 - 1), (a + 2 * s), (symS d c (2 * s) a (a + s) (a + 2 * s) cur2)) ?_ ?_ ?_
    · exact ⟨rfl, rfl, rfl, rfl, rfl, rfl, trivial⟩
    · exact ⟨(by omega), (by omega), hl20, hp21, ((symB_go (by omega) (by omega)).symm.trans hR2), (H19.takes [0, 1, 2] (by decide))⟩
    · (try dsimp only); omega
   ·
    refine g_cond_f rfl (decide_eq_false hb17) ?_
    refine g_exit ?_
    refine g_then_exit ?_
    refine g_then_exit ?_
    refine g_in_hit ?_
    refine g_then ?_
    refine g_seq ?_
    refine w_s ?_
    refine w_r2 ?_
    refine w_b (v := .int .i64 (((a + s : Nat) : Int))) (hb := (b_addN (a := a) (b := s) (by omega))) ?_
    refine w_a ?_
    refine w_e ?_
    refine w_s ?_
    refine w_r2 ?_
    refine w_b ?_
    refine w_e ?_
    by_cases hb22 : (((a + s : Nat) : Int) : Int) < (nn : Int)
    ·
     refine g_cond_t rfl (decide_eq_true hb22) ?_
     refine g_region ?_
     refine w_r5 ?_
     have hl25 : (symS d c (nn - a) a (a + s) nn cur2).length = nn := by rw [(symS_mv (d := d) (c := c) (n := (nn - a)) (a := a) (m := (a + s)) (b := nn) (by rw [hcl2]; omega) (by omega) (by omega) (by omega)).len]; exact hcl2
     have hp26 : (symS d c (nn - a) a (a + s) nn cur2).Perm z := (symS_mv (d := d) (c := c) (n := (nn - a)) (a := a) (m := (a + s)) (b := nn) (by rw [hcl2]; omega) (by omega) (by omega) (by omega)).1.trans (hpp2)
     refine l_of (s_call (wt0 rfl) (x_call' rfl rfl cl132) (symS_s d ev cs hcs hsz ho z nn p cc hm c gc fi ca X hc (nn - a) cur2 hcl2 (hpp2) a (a + s) nn (by omega) (by omega) (by omega) (by omega) _ (H16.takes [0, 1] (by decide))) ?_)
     rintro _ wq23 ⟨rfl, H24⟩
     replace H24 : S wq23 [Rw 102 10 p nn cc (mV ev (symS d c (nn - a) a (a + s) nn cur2)), X, Old w (fps [Rw 102 10 p nn cc (mV ev z), X])] := by have h := H16.absorbI [0, 1] H24; exact h
     refine b_ret rfl rfl ?_
     refine w_e ?_
     refine g_weak [(0, .slice p nn cc), (1, .int .i64 ((nn : Int))), (2, .func (.func gc) fi ca), (6, .int .i64 ((s : Int)))] ⟨rfl, rfl, rfl, rfl, trivial⟩ ?_
     refine g_region ?_
     refine w_m ?_
     refine w_b (v := .int .i64 (((2 * s : Nat) : Int))) (hb := (b_mul (r := ((2 * s : Nat) : Int)) (by rw [show (s : Int) * (2 : Int) = ((2 * s : Nat) : Int) from by omega]; exact w64 (by omega)))) ?_
     refine w_a ?_
     refine g_nil ?_
     refine g_in ?_
     refine g_then ?_
     refine g_round (i := (k, s, cw)) ((k - 1), (2 * s), (symS d c (nn - a) a (a + s) nn cur2)) ?_ ?_ ?_
     · exact ⟨rfl, rfl, rfl, rfl, trivial⟩
     · exact ⟨(by omega), (by omega), hl25, hp26, (by have h9 := (symA_go (l := cw) (c := c) (d := d) (n := nn) (k := k) (s := s) (by omega) (by omega)).symm.trans hR; rw [← hR2, symB_end (by omega), if_pos (by omega)] at h9; exact h9), (H24.takes [0, 1, 2] (by decide))⟩
     · (try dsimp only); omega
    ·
     refine g_cond_f rfl (decide_eq_false hb22) ?_
     refine g_skip ?_
     refine g_then ?_
     refine g_weak [(0, .slice p nn cc), (1, .int .i64 ((nn : Int))), (2, .func (.func gc) fi ca), (6, .int .i64 ((s : Int)))] ⟨rfl, rfl, rfl, rfl, trivial⟩ ?_
     refine g_region ?_
     refine w_m ?_
     refine w_b (v := .int .i64 (((2 * s : Nat) : Int))) (hb := (b_mul (r := ((2 * s : Nat) : Int)) (by rw [show (s : Int) * (2 : Int) = ((2 * s : Nat) : Int) from by omega]; exact w64 (by omega)))) ?_
     refine w_a ?_
     refine g_nil ?_
     refine g_in ?_
     refine g_then ?_
     refine g_round (i := (k, s, cw)) ((k - 1), (2 * s), cur2) ?_ ?_ ?_
     · exact ⟨rfl, rfl, rfl, rfl, trivial⟩
     · exact ⟨(by omega), (by omega), hcl2, hpp2, (by have h9 := (symA_go (l := cw) (c := c) (d := d) (n := nn) (k := k) (s := s) (by omega) (by omega)).symm.trans hR; rw [← hR2, symB_end (by omega), if_neg (by omega)] at h9; exact h9), (H16.takes [0, 1, 2] (by decide))⟩
     · (try dsimp only); omega
  ·
   refine g_cond_f rfl (decide_eq_false hb14) ?_
   refine g_exit ?_
   refine g_then_exit ?_
   refine g_then_exit ?_
   refine g_in_hit ?_
   refine fin_end [] [] rfl trivial ?_
   exact ⟨rfl, by unfold stableS; rw [hz]; rw [hRB, symA_end (by omega)] at hR; rw [← hR]; exact (H13.takes [0, 1, 2] (by decide))⟩
set_option maxRecDepth 20000 in
set_option maxHeartbeats 4000000 in
theorem sortStable_s {β : Type} (d : β) (ev : β → Value) (cs : β → Array Value) (hcs : ∀ x, ev x = .agg (cs x)) (hsz : ∀ x, (ev x).cells.size = 10) (ho : ∀ x, (ev x).cells.toList.all (·.oneCell') = true) (z : List β) (nn : Nat) (hz : z.length = nn) (p : Option Addr) (cc : Nat) (hm : nn ≤ 1099511627776) (c : β → β → Int) (gc : Nat) (fi ca : Array Value) (X : Item) (hc : Cmps Tryz.prog gc fi ca X ev c z)  (w : World) (HS : S w [Rw 102 10 p nn cc (mV ev z), X]) : Calls Tryz.prog 91 #[.slice p nn cc, .func (.func gc) fi ca] w fun e w' => e = .returned (.tuple #[]) ∧ S w' ([Rw 102 10 p nn cc (mV ev (stableS d c z)), X] ++ [Old w (fps [Rw 102 10 p nn cc (mV ev z), X])]) := by
 have H0 := HS.beginI
 refine enter 9 Tryz.func91 rfl rfl rfl ?_
 refine g_weak [(0, .slice p nn cc), (1, .func (.func gc) fi ca)] ⟨rfl, rfl, trivial⟩ ?_
 refine g_region ?_
 refine w_r2 ?_
 refine w_v (v := .int .i64 ((nn : Int))) (x_lenl rfl rfl Tryz.underlying98) ?_
 refine w_m ?_
 have hl3 : (stableS d c z).length = nn := by rw [(stable_perm d c z).length_eq]; exact hz
 have hp4 : (stableS d c z).Perm z := stable_perm d c z
 refine l_of (s_call (wt0 rfl) (x_call' rfl rfl cl114) (stable0_s d ev cs hcs hsz ho z nn hz p cc hm c gc fi ca X hc _ (H0.takes [0, 1] (by decide))) ?_)
 rintro _ wq1 ⟨rfl, H2⟩
 replace H2 : S wq1 [Rw 102 10 p nn cc (mV ev (stableS d c z)), X, Old w (fps [Rw 102 10 p nn cc (mV ev z), X])] := by have h := H0.absorbI [0, 1] H2; exact h
 refine b_ret rfl rfl ?_
 refine g_nil ?_
 refine fin_end [] [] rfl trivial ?_
 exact ⟨rfl, (H2.takes [0, 1, 2] (by decide))⟩
end Go.Proofs.YtpbjekdjebjbkaaGreat
