import Derived.Test.YthfglkkjkpdkpaaGreatDoorSp
import Derived.Test.YthfglkkjkpdkpaaGreatDoorProg
set_option linter.unusedSimpArgs false
set_option linter.unusedVariables false
namespace Go.Proofs.YthfglkkjkpdkpaaGreatDoor
open Go.RowKit

theorem cl132 : callable Tryz.prog 132 = true := by kernel_rfl
theorem sz30 : szO Tryz.prog 30 = some 10 := by kernel_rfl
theorem ex_cast {P : Program} {N : Nat} {f : Fr} {ds : List Deferred} {w w' : World} {o : Oper} {v v' : Value} (h : Ex P N f ds o w v w') (e : v = v') : Ex P N f ds o w v' w' := e ▸ h
set_option maxRecDepth 20000 in
set_option maxHeartbeats 4000000 in
set_option maxRecDepth 20000 in
set_option maxHeartbeats 4000000 in
theorem swR_s {β : Type} (d : β) (ev : β → Value) (cs : β → Array Value) (hcs : ∀ x, ev x = .agg (cs x)) (hsz : ∀ x, (ev x).cells.size = 10) (ho : ∀ x, (ev x).cells.toList.all (·.oneCell') = true) (z : List β) (nn : Nat) (hz : z.length = nn) (p : Option Addr) (cc : Nat) (hm : nn ≤ 1099511627776) (a b n : Nat) (ha : a + n ≤ nn) (hb : b + n ≤ nn) (fv : Value) (w : World) (HS : S w [Rw 30 10 p nn cc (mV ev z)]) : Calls Tryz.prog 132 #[.slice p nn cc, .int .i64 ((a : Int)), .int .i64 ((b : Int)), .int .i64 ((n : Int)), fv] w fun e w' => e = .returned (.tuple #[]) ∧ S w' ([Rw 30 10 p nn cc (mV ev (swR d a b n z))] ++ [Old w (fps [Rw 30 10 p nn cc (mV ev z)])]) := by
  have H00 := HS.beginI
  have H0 : S w ([Rw 30 10 p nn cc (mV ev z), Old w (fps [Rw 30 10 p nn cc (mV ev z)])]) := H00
  refine enter 38 Tryz.func132 rfl rfl rfl ?_
  refine g_weak [(0, .slice p nn cc), (1, .int .i64 ((a : Int))), (2, .int .i64 ((b : Int))), (3, .int .i64 ((n : Int))), (4, fv)] ⟨rfl, rfl, rfl, rfl, rfl, trivial⟩ ?_
  refine g_seq ?_
  refine g_region ?_
  refine l_of (s_val (v := .int .i64 0) (wt0 rfl) rfl rfl (x_assign rfl rfl) ?_)
  refine g_nil ?_
  refine g_then ?_
  refine g_block ?_
  refine g_loop (ι := Nat × List β) (fun (i, cur) => [(0, .slice p nn cc), (1, .int .i64 ((a : Int))), (2, .int .i64 ((b : Int))), (3, .int .i64 ((n : Int))), (10, .int .i64 ((i : Int)))]) (fun (i, cur) wx => (i ≤ n) ∧ (cur.length = nn) ∧ (swr d a b (n - i) i cur = swR d a b n z) ∧ S wx [Rw 30 10 p nn cc (mV ev cur), Old w (fps [Rw 30 10 p nn cc (mV ev z)])]) (fun (i, cur) => n - i) (0, z) ⟨rfl, rfl, rfl, rfl, rfl, trivial⟩ ⟨Nat.zero_le _, hz, rfl, (H0.takes [0, 1] (by decide))⟩ ?_
  rintro ⟨i, cur⟩ wq1 ⟨hi, hcl, hR, H2⟩
  replace H2 : S wq1 [Rw 30 10 p nn cc (mV ev cur), Old w (fps [Rw 30 10 p nn cc (mV ev z)])] := H2
  refine g_weak [(0, .slice p nn cc), (1, .int .i64 ((a : Int))), (2, .int .i64 ((b : Int))), (3, .int .i64 ((n : Int))), (10, .int .i64 ((i : Int)))] ⟨rfl, rfl, rfl, rfl, rfl, trivial⟩ ?_
  refine g_seq ?_
  refine g_seq ?_
  refine g_region ?_
  refine l_of (s_val (v := .int .i64 ((i : Int))) (wt0 rfl) rfl rfl (x_move rfl rfl) ?_)
  refine l_of (s_val (v := .int .i64 ((n : Int))) (wt0 rfl) rfl rfl (x_move rfl rfl) ?_)
  refine l_of (s_val (v := .bool (decide (((i : Int) : Int) < (n : Int)))) (wt0 rfl) rfl rfl (x_bin rfl rfl rfl b_lss) ?_)
  refine g_nil ?_
  refine g_then ?_
  by_cases hb3 : ((i : Int) : Int) < (n : Int)
  · skip
    refine g_cond_t rfl (decide_eq_true hb3) ?_
    refine g_skip ?_
    refine g_then ?_
    refine g_seq ?_
    refine g_block ?_
    refine g_anyY [] (fun wx => S wx [Rw 30 10 p nn cc (mV ev cur), Old w (fps [Rw 30 10 p nn cc (mV ev z)])]) (fun wx => S wx [Old w (fps [Rw 30 10 p nn cc (mV ev z)])]) [21, 23] (by kernel_rfl) H2 (fun wq4 H5 => ?_)
    refine y_pure (v := .slice p nn cc) 0 rfl (wt0 rfl) rfl rfl rfl (by kernel_rfl) (by kernel_rfl) (by kernel_rfl) (by kernel_rfl) (fun wx => x_move rfl rfl) ?_
    refine y_pure (v := .int .i64 ((a : Int))) 1 rfl (wt0 rfl) rfl rfl rfl (by kernel_rfl) (by kernel_rfl) (by kernel_rfl) (by kernel_rfl) (fun wx => x_move rfl rfl) ?_
    refine y_pure (v := .int .i64 ((i : Int))) 2 rfl (wt0 rfl) rfl rfl rfl (by kernel_rfl) (by kernel_rfl) (by kernel_rfl) (by kernel_rfl) (fun wx => x_move rfl rfl) ?_
    refine y_pure (v := .int .i64 (((a + i : Nat) : Int))) 3 rfl (wt0 rfl) rfl rfl rfl (by kernel_rfl) (by kernel_rfl) (by kernel_rfl) (by kernel_rfl) (fun wx => x_bin rfl rfl rfl (b_addN (a := a) (b := i) (by omega))) ?_
    refine y_pure (v := .slice p nn cc) 4 rfl (wt0 rfl) rfl rfl rfl (by kernel_rfl) (by kernel_rfl) (by kernel_rfl) (by kernel_rfl) (fun wx => x_move rfl rfl) ?_
    refine y_pure (v := .int .i64 ((b : Int))) 5 rfl (wt0 rfl) rfl rfl rfl (by kernel_rfl) (by kernel_rfl) (by kernel_rfl) (by kernel_rfl) (fun wx => x_move rfl rfl) ?_
    refine y_pure (v := .int .i64 ((i : Int))) 6 rfl (wt0 rfl) rfl rfl rfl (by kernel_rfl) (by kernel_rfl) (by kernel_rfl) (by kernel_rfl) (fun wx => x_move rfl rfl) ?_
    refine y_pure (v := .int .i64 (((b + i : Nat) : Int))) 7 rfl (wt0 rfl) rfl rfl rfl (by kernel_rfl) (by kernel_rfl) (by kernel_rfl) (by kernel_rfl) (fun wx => x_bin rfl rfl rfl (b_addN (a := b) (b := i) (by omega))) ?_
    refine y_pure (v := .slice p nn cc) 8 rfl (wt0 rfl) rfl rfl rfl (by kernel_rfl) (by kernel_rfl) (by kernel_rfl) (by kernel_rfl) (fun wx => x_move rfl rfl) ?_
    refine y_pure (v := .int .i64 ((b : Int))) 9 rfl (wt0 rfl) rfl rfl rfl (by kernel_rfl) (by kernel_rfl) (by kernel_rfl) (by kernel_rfl) (fun wx => x_move rfl rfl) ?_
    refine y_pure (v := .int .i64 ((i : Int))) 10 rfl (wt0 rfl) rfl rfl rfl (by kernel_rfl) (by kernel_rfl) (by kernel_rfl) (by kernel_rfl) (fun wx => x_move rfl rfl) ?_
    refine y_pure (v := .int .i64 (((b + i : Nat) : Int))) 11 rfl (wt0 rfl) rfl rfl rfl (by kernel_rfl) (by kernel_rfl) (by kernel_rfl) (by kernel_rfl) (fun wx => x_bin rfl rfl rfl (b_addN (a := b) (b := i) (by omega))) ?_
    refine y_pure (v := .pointer ((p).map fun q => q.add ((b + i) * 10))) 12 rfl (wt0 rfl) rfl rfl rfl (by kernel_rfl) (by kernel_rfl) (by kernel_rfl) (by kernel_rfl) (fun wx => x_idxP (b + i) (H5.rwSome (k := 0) rfl (by omega)) rfl rfl rfl Tryz.underlying22 sz30 (by omega)) ?_
    refine y_take (v := ev (cur.getD (b + i) d)) 13 rfl (wt0 rfl) rfl rfl rfl (by kernel_rfl) (by kernel_rfl) (by kernel_rfl) (by kernel_rfl) (by kernel_rfl) H5 (fun wx H => ex_cast (x_loadRA (vs := (ev (cur.getD (b + i) d)).cells.toList) (b + i) (H.rwReads (k := 0) rfl) (by omega) rfl rfl Tryz.underlying30 rfl sz30 (by rw [Array.length_toList]; exact hsz _) (mV_atR hsz (by omega))) (by rw [hcs]; rfl)) ?_
    refine y_pure (v := .slice p nn cc) 14 rfl (wt0 rfl) rfl rfl rfl (by kernel_rfl) (by kernel_rfl) (by kernel_rfl) (by kernel_rfl) (fun wx => x_move rfl rfl) ?_
    refine y_pure (v := .int .i64 ((a : Int))) 15 rfl (wt0 rfl) rfl rfl rfl (by kernel_rfl) (by kernel_rfl) (by kernel_rfl) (by kernel_rfl) (fun wx => x_move rfl rfl) ?_
    refine y_pure (v := .int .i64 ((i : Int))) 16 rfl (wt0 rfl) rfl rfl rfl (by kernel_rfl) (by kernel_rfl) (by kernel_rfl) (by kernel_rfl) (fun wx => x_move rfl rfl) ?_
    refine y_pure (v := .int .i64 (((a + i : Nat) : Int))) 17 rfl (wt0 rfl) rfl rfl rfl (by kernel_rfl) (by kernel_rfl) (by kernel_rfl) (by kernel_rfl) (fun wx => x_bin rfl rfl rfl (b_addN (a := a) (b := i) (by omega))) ?_
    refine y_pure (v := .pointer ((p).map fun q => q.add ((a + i) * 10))) 18 rfl (wt0 rfl) rfl rfl rfl (by kernel_rfl) (by kernel_rfl) (by kernel_rfl) (by kernel_rfl) (fun wx => x_idxP (a + i) (H5.rwSome (k := 0) rfl (by omega)) rfl rfl rfl Tryz.underlying22 sz30 (by omega)) ?_
    refine y_take (v := ev (cur.getD (a + i) d)) 19 rfl (wt0 rfl) rfl rfl rfl (by kernel_rfl) (by kernel_rfl) (by kernel_rfl) (by kernel_rfl) (by kernel_rfl) H5 (fun wx H => ex_cast (x_loadRA (vs := (ev (cur.getD (a + i) d)).cells.toList) (a + i) (H.rwReads (k := 0) rfl) (by omega) rfl rfl Tryz.underlying30 rfl sz30 (by rw [Array.length_toList]; exact hsz _) (mV_atR hsz (by omega))) (by rw [hcs]; rfl)) ?_
    refine y_pure (v := .pointer ((p).map fun q => q.add ((a + i) * 10))) 20 rfl (wt0 rfl) rfl rfl rfl (by kernel_rfl) (by kernel_rfl) (by kernel_rfl) (by kernel_rfl) (fun wx => x_idxP (a + i) (H5.rwSome (k := 0) rfl (by omega)) rfl rfl rfl Tryz.underlying22 sz30 (by omega)) ?_
    refine y_one (i := 21) (by kernel_rfl) rfl ?_
    refine s_storeW (j := (a + i)) H5 0 (wt0 rfl) rfl rfl rfl rfl rfl (by rw [hsz]; exact sz30) (hsz _) (ho _) (by omega) ?_
    intro wq6 H7
    rw [mV_set hsz (cur.getD (b + i) d) (by first | omega | (simp only [List.length_set]; omega))] at H7
    replace H7 : S wq6 [Rw 30 10 p nn cc (mV ev (cur.set (a + i) (cur.getD (b + i) d))), Old w (fps [Rw 30 10 p nn cc (mV ev z)])] := H7
    refine y_kt rfl (H7.mask [false, true]) ?_
    refine y_pure (v := .pointer ((p).map fun q => q.add ((b + i) * 10))) 22 rfl (wt0 rfl) rfl rfl rfl (by kernel_rfl) (by kernel_rfl) (by kernel_rfl) (by kernel_rfl) (fun wx => x_idxP (b + i) (H7.rwSome (k := 0) rfl (by omega)) rfl rfl rfl Tryz.underlying22 sz30 (by omega)) ?_
    refine y_one (i := 23) (by kernel_rfl) rfl ?_
    refine s_storeW (j := (b + i)) H7 0 (wt0 rfl) rfl rfl rfl rfl rfl (by rw [hsz]; exact sz30) (hsz _) (ho _) (by omega) ?_
    intro wq8 H9
    rw [mV_set hsz (cur.getD (a + i) d) (by first | omega | (simp only [List.length_set]; omega))] at H9
    replace H9 : S wq8 [Rw 30 10 p nn cc (mV ev ((cur.set (a + i) (cur.getD (b + i) d)).set (b + i) (cur.getD (a + i) d))), Old w (fps [Rw 30 10 p nn cc (mV ev z)])] := H9
    refine y_kt rfl (H9.mask [false, true]) ?_
    refine y_done (by kernel_rfl) ?_
    refine g_in ?_
    refine g_then ?_
    refine g_weak [(0, .slice p nn cc), (1, .int .i64 ((a : Int))), (2, .int .i64 ((b : Int))), (3, .int .i64 ((n : Int))), (10, .int .i64 ((i : Int)))] ⟨rfl, rfl, rfl, rfl, rfl, trivial⟩ ?_
    refine g_region ?_
    refine l_of (s_val (v := .int .i64 ((i : Int))) (wt0 rfl) rfl rfl (x_move rfl rfl) ?_)
    refine l_of (s_val (v := .int .i64 (((i + 1 : Nat) : Int))) (wt0 rfl) rfl rfl (x_bin rfl rfl rfl (b_addN (a := i) (b := 1) (by omega))) ?_)
    refine l_of (s_val (v := .int .i64 (((i + 1 : Nat) : Int))) (wt0 rfl) rfl rfl (x_assign rfl rfl) ?_)
    refine g_nil ?_
    refine g_then ?_
    refine g_round (i := (i, cur)) ((i + 1), ((cur.set (a + i) (cur.getD (b + i) d)).set (b + i) (cur.getD (a + i) d))) ?_ ?_ ?_
    · exact ⟨rfl, rfl, rfl, rfl, rfl, trivial⟩
    · exact ⟨by omega, (by simp only [List.length_set]; exact hcl), ((swr_go (by omega)).symm.trans hR), (H9.takes [0, 1] (by decide))⟩
    · (try dsimp only); omega
  · skip
    refine g_cond_f rfl (decide_eq_false hb3) ?_
    refine g_exit ?_
    refine g_then_exit ?_
    refine g_then_exit ?_
    refine g_in_hit ?_
    refine fin_end [] [] rfl trivial ?_
    exact ⟨rfl, by rw [← hR, swr_end (by omega)]; exact (H2.takes [0, 1] (by decide))⟩
theorem swr_len {β : Type} (d : β) (a b : Nat) : ∀ (n i : Nat) (l : List β), (swr d a b n i l).length = l.length
  | 0, _, _ => rfl
  | n + 1, i, l => by unfold swr; rw [swr_len d a b n, swp_len]
theorem swR_len {β : Type} {d : β} {a b n : Nat} {l : List β} : (swR d a b n l).length = l.length := swr_len d a b n 0 l
theorem rotS_gt {β : Type} {d : β} {m n i j : Nat} {l : List β} (h : j < i) (hj : 1 ≤ j) (hn : i + j ≤ n + 2) : rotS d m n i j l = rotS d m (n - 1) (i - j) j (swR d (m - i) m j l) := by
  obtain ⟨k, rfl⟩ : ∃ k, n = k + 1 := ⟨n - 1, by omega⟩
  conv => lhs; unfold rotS
  rw [if_neg (by omega), if_pos h]; rfl
theorem rotS_lt {β : Type} {d : β} {m n i j : Nat} {l : List β} (h : i < j) (hi : 1 ≤ i) (hn : i + j ≤ n + 2) : rotS d m n i j l = rotS d m (n - 1) i (j - i) (swR d (m - i) (m + j - i) i l) := by
  obtain ⟨k, rfl⟩ : ∃ k, n = k + 1 := ⟨n - 1, by omega⟩
  conv => lhs; unfold rotS
  rw [if_neg (by omega), if_neg (by omega)]; rfl
theorem rotS_eq {β : Type} {d : β} {m n i : Nat} {l : List β} : rotS d m n i i l = swR d (m - i) m i l := by
  cases n with
  | zero => rfl
  | succ n => unfold rotS; rw [if_pos rfl]
set_option maxRecDepth 20000 in
set_option maxHeartbeats 4000000 in
set_option maxRecDepth 20000 in
set_option maxHeartbeats 4000000 in
theorem rotS_s {β : Type} (d : β) (ev : β → Value) (cs : β → Array Value) (hcs : ∀ x, ev x = .agg (cs x)) (hsz : ∀ x, (ev x).cells.size = 10) (ho : ∀ x, (ev x).cells.toList.all (·.oneCell') = true) (z : List β) (nn : Nat) (hz : z.length = nn) (p : Option Addr) (cc : Nat) (hm : nn ≤ 1099511627776) (a m b : Nat) (ham : a < m) (hmb : m < b) (hb : b ≤ nn) (fv : Value) (w : World) (HS : S w [Rw 30 10 p nn cc (mV ev z)]) : Calls Tryz.prog 125 #[.slice p nn cc, .int .i64 ((a : Int)), .int .i64 ((m : Int)), .int .i64 ((b : Int)), fv] w fun e w' => e = .returned (.tuple #[]) ∧ S w' ([Rw 30 10 p nn cc (mV ev (rotS d m (b - a) (m - a) (b - m) z))] ++ [Old w (fps [Rw 30 10 p nn cc (mV ev z)])]) := by
  have H00 := HS.beginI
  have H0 : S w ([Rw 30 10 p nn cc (mV ev z), Old w (fps [Rw 30 10 p nn cc (mV ev z)])]) := H00
  refine enter 58 Tryz.func125 rfl rfl rfl ?_
  refine g_weak [(0, .slice p nn cc), (1, .int .i64 ((a : Int))), (2, .int .i64 ((m : Int))), (3, .int .i64 ((b : Int))), (4, fv)] ⟨rfl, rfl, rfl, rfl, rfl, trivial⟩ ?_
  refine g_seq ?_
  refine g_region ?_
  refine l_of (s_val (v := .int .i64 ((m : Int))) (wt0 rfl) rfl rfl (x_move rfl rfl) ?_)
  refine l_of (s_val (v := .int .i64 ((a : Int))) (wt0 rfl) rfl rfl (x_move rfl rfl) ?_)
  refine l_of (s_val (v := .int .i64 (((m - a : Nat) : Int))) (wt0 rfl) rfl rfl (x_bin rfl rfl rfl (b_subN (a := m) (b := a) (by omega))) ?_)
  refine l_of (s_val (v := .int .i64 (((m - a : Nat) : Int))) (wt0 rfl) rfl rfl (x_assign rfl rfl) ?_)
  refine g_nil ?_
  refine g_then ?_
  refine g_seq ?_
  refine g_region ?_
  refine l_of (s_val (v := .int .i64 ((b : Int))) (wt0 rfl) rfl rfl (x_move rfl rfl) ?_)
  refine l_of (s_val (v := .int .i64 ((m : Int))) (wt0 rfl) rfl rfl (x_move rfl rfl) ?_)
  refine l_of (s_val (v := .int .i64 (((b - m : Nat) : Int))) (wt0 rfl) rfl rfl (x_bin rfl rfl rfl (b_subN (a := b) (b := m) (by omega))) ?_)
  refine l_of (s_val (v := .int .i64 (((b - m : Nat) : Int))) (wt0 rfl) rfl rfl (x_assign rfl rfl) ?_)
  refine g_nil ?_
  refine g_then ?_
  refine g_seq ?_
  refine g_block ?_
  refine g_loop (ι := Nat × Nat × Nat × List β) (fun (n, i, j, cur) => [(0, .slice p nn cc), (2, .int .i64 ((m : Int))), (4, fv), (10, .int .i64 ((i : Int))), (11, .int .i64 ((j : Int)))]) (fun (n, i, j, cur) wx => (1 ≤ i ∧ 1 ≤ j ∧ a + i ≤ m ∧ m + j ≤ b) ∧ (i + j ≤ n + 2) ∧ (cur.length = nn) ∧ (rotS d m n i j cur = rotS d m (b - a) (m - a) (b - m) z) ∧ S wx [Rw 30 10 p nn cc (mV ev cur), Old w (fps [Rw 30 10 p nn cc (mV ev z)])]) (fun (n, i, j, cur) => i + j) ((b - a), (m - a), (b - m), z) ⟨rfl, rfl, rfl, rfl, rfl, trivial⟩ ⟨(by omega), (by omega), hz, rfl, (H0.takes [0, 1] (by decide))⟩ ?_
  rintro ⟨n, i, j, cur⟩ wq1 ⟨hij, hn, hcl, hR, H2⟩
  replace H2 : S wq1 [Rw 30 10 p nn cc (mV ev cur), Old w (fps [Rw 30 10 p nn cc (mV ev z)])] := H2
  refine g_weak [(0, .slice p nn cc), (2, .int .i64 ((m : Int))), (4, fv), (10, .int .i64 ((i : Int))), (11, .int .i64 ((j : Int)))] ⟨rfl, rfl, rfl, rfl, rfl, trivial⟩ ?_
  refine g_seq ?_
  refine g_seq ?_
  refine g_region ?_
  refine l_of (s_val (v := .int .i64 ((i : Int))) (wt0 rfl) rfl rfl (x_move rfl rfl) ?_)
  refine l_of (s_val (v := .int .i64 ((j : Int))) (wt0 rfl) rfl rfl (x_move rfl rfl) ?_)
  refine l_of (s_val (v := .bool (!decide (((i : Int) : Int) = (j : Int)))) (wt0 rfl) rfl rfl (x_bin rfl rfl rfl b_neq) ?_)
  refine g_nil ?_
  refine g_then ?_
  by_cases hb3 : ((i : Int) : Int) = (j : Int)
  · skip
    refine g_cond_f rfl (nf hb3) ?_
    refine g_exit ?_
    refine g_then_exit ?_
    refine g_then_exit ?_
    refine g_in_hit ?_
    refine g_then ?_
    refine g_region ?_
    refine l_of (s_val (v := .slice p nn cc) (wt0 rfl) rfl rfl (x_move rfl rfl) ?_)
    refine l_of (s_val (v := .int .i64 ((m : Int))) (wt0 rfl) rfl rfl (x_move rfl rfl) ?_)
    refine l_of (s_val (v := .int .i64 ((i : Int))) (wt0 rfl) rfl rfl (x_move rfl rfl) ?_)
    refine l_of (s_val (v := .int .i64 (((m - i : Nat) : Int))) (wt0 rfl) rfl rfl (x_bin rfl rfl rfl (b_subN (a := m) (b := i) (by omega))) ?_)
    refine l_of (s_val (v := .int .i64 ((m : Int))) (wt0 rfl) rfl rfl (x_move rfl rfl) ?_)
    refine l_of (s_val (v := .int .i64 ((i : Int))) (wt0 rfl) rfl rfl (x_move rfl rfl) ?_)
    refine l_of (s_val (v := fv) (wt0 rfl) rfl rfl (x_move rfl rfl) ?_)
    refine l_of (s_call (wt0 rfl) (x_call' rfl rfl cl132) (swR_s d ev cs hcs hsz ho cur nn hcl p cc hm (m - i) m i (by omega) (by omega) (fv) _ (H2.takes [0] (by decide))) ?_)
    rintro _ wq4 ⟨rfl, H5⟩
    replace H5 : S wq4 [Rw 30 10 p nn cc (mV ev (swR d (m - i) m i cur)), Old w (fps [Rw 30 10 p nn cc (mV ev z)])] := H2.absorbI (new := [Rw 30 10 p nn cc (mV ev (swR d (m - i) m i cur))]) [0] H5
    refine b_ret rfl rfl ?_
    refine g_nil ?_
    refine fin_end [] [] rfl trivial ?_
    have hij2 : i = j := by omega
    subst hij2
    exact ⟨rfl, by rw [← hR, rotS_eq]; exact (H5.takes [0, 1] (by decide))⟩
  · skip
    refine g_cond_t rfl (nt hb3) ?_
    refine g_skip ?_
    refine g_then ?_
    refine g_block ?_
    refine g_seq ?_
    refine g_region ?_
    refine l_of (s_val (v := .int .i64 ((i : Int))) (wt0 rfl) rfl rfl (x_move rfl rfl) ?_)
    refine l_of (s_val (v := .int .i64 ((j : Int))) (wt0 rfl) rfl rfl (x_move rfl rfl) ?_)
    refine l_of (s_val (v := .bool (decide (((j : Int) : Int) < (i : Int)))) (wt0 rfl) rfl rfl (x_bin rfl rfl rfl b_gtr) ?_)
    refine g_nil ?_
    refine g_then ?_
    by_cases hb6 : ((j : Int) : Int) < (i : Int)
    · skip
      refine g_cond_t rfl (decide_eq_true hb6) ?_
      refine g_seq ?_
      refine g_region ?_
      refine l_of (s_val (v := .slice p nn cc) (wt0 rfl) rfl rfl (x_move rfl rfl) ?_)
      refine l_of (s_val (v := .int .i64 ((m : Int))) (wt0 rfl) rfl rfl (x_move rfl rfl) ?_)
      refine l_of (s_val (v := .int .i64 ((i : Int))) (wt0 rfl) rfl rfl (x_move rfl rfl) ?_)
      refine l_of (s_val (v := .int .i64 (((m - i : Nat) : Int))) (wt0 rfl) rfl rfl (x_bin rfl rfl rfl (b_subN (a := m) (b := i) (by omega))) ?_)
      refine l_of (s_val (v := .int .i64 ((m : Int))) (wt0 rfl) rfl rfl (x_move rfl rfl) ?_)
      refine l_of (s_val (v := .int .i64 ((j : Int))) (wt0 rfl) rfl rfl (x_move rfl rfl) ?_)
      refine l_of (s_val (v := fv) (wt0 rfl) rfl rfl (x_move rfl rfl) ?_)
      refine l_of (s_call (wt0 rfl) (x_call' rfl rfl cl132) (swR_s d ev cs hcs hsz ho cur nn hcl p cc hm (m - i) m j (by omega) (by omega) (fv) _ (H2.takes [0] (by decide))) ?_)
      rintro _ wq7 ⟨rfl, H8⟩
      replace H8 : S wq7 [Rw 30 10 p nn cc (mV ev (swR d (m - i) m j cur)), Old w (fps [Rw 30 10 p nn cc (mV ev z)])] := H2.absorbI (new := [Rw 30 10 p nn cc (mV ev (swR d (m - i) m j cur))]) [0] H8
      refine b_ret rfl rfl ?_
      refine g_nil ?_
      refine g_then ?_
      refine g_weak [(0, .slice p nn cc), (2, .int .i64 ((m : Int))), (4, fv), (10, .int .i64 ((i : Int))), (11, .int .i64 ((j : Int)))] ⟨rfl, rfl, rfl, rfl, rfl, trivial⟩ ?_
      refine g_region ?_
      refine l_of (s_val (v := .int .i64 ((i : Int))) (wt0 rfl) rfl rfl (x_move rfl rfl) ?_)
      refine l_of (s_val (v := .int .i64 ((j : Int))) (wt0 rfl) rfl rfl (x_move rfl rfl) ?_)
      refine l_of (s_val (v := .int .i64 (((i - j : Nat) : Int))) (wt0 rfl) rfl rfl (x_bin rfl rfl rfl (b_subN (a := i) (b := j) (by omega))) ?_)
      refine l_of (s_val (v := .int .i64 (((i - j : Nat) : Int))) (wt0 rfl) rfl rfl (x_assign rfl rfl) ?_)
      refine g_nil ?_
      refine g_in ?_
      refine g_then ?_
      refine g_round (i := (n, i, j, cur)) ((n - 1), (i - j), j, (swR d (m - i) m j cur)) ?_ ?_ ?_
      · exact ⟨rfl, rfl, rfl, rfl, rfl, trivial⟩
      · exact ⟨(by omega), (by omega), (by rw [swR_len]; exact hcl), ((rotS_gt (by omega) (by omega) (by omega)).symm.trans hR), (H8.takes [0, 1] (by decide))⟩
      · (try dsimp only); omega
    · skip
      refine g_cond_f rfl (decide_eq_false hb6) ?_
      refine g_seq ?_
      refine g_region ?_
      refine l_of (s_val (v := .slice p nn cc) (wt0 rfl) rfl rfl (x_move rfl rfl) ?_)
      refine l_of (s_val (v := .int .i64 ((m : Int))) (wt0 rfl) rfl rfl (x_move rfl rfl) ?_)
      refine l_of (s_val (v := .int .i64 ((i : Int))) (wt0 rfl) rfl rfl (x_move rfl rfl) ?_)
      refine l_of (s_val (v := .int .i64 (((m - i : Nat) : Int))) (wt0 rfl) rfl rfl (x_bin rfl rfl rfl (b_subN (a := m) (b := i) (by omega))) ?_)
      refine l_of (s_val (v := .int .i64 ((m : Int))) (wt0 rfl) rfl rfl (x_move rfl rfl) ?_)
      refine l_of (s_val (v := .int .i64 ((j : Int))) (wt0 rfl) rfl rfl (x_move rfl rfl) ?_)
      refine l_of (s_val (v := .int .i64 (((m + j : Nat) : Int))) (wt0 rfl) rfl rfl (x_bin rfl rfl rfl (b_addN (a := m) (b := j) (by omega))) ?_)
      refine l_of (s_val (v := .int .i64 ((i : Int))) (wt0 rfl) rfl rfl (x_move rfl rfl) ?_)
      refine l_of (s_val (v := .int .i64 (((m + j - i : Nat) : Int))) (wt0 rfl) rfl rfl (x_bin rfl rfl rfl (b_subN (a := m + j) (b := i) (by omega))) ?_)
      refine l_of (s_val (v := .int .i64 ((i : Int))) (wt0 rfl) rfl rfl (x_move rfl rfl) ?_)
      refine l_of (s_val (v := fv) (wt0 rfl) rfl rfl (x_move rfl rfl) ?_)
      refine l_of (s_call (wt0 rfl) (x_call' rfl rfl cl132) (swR_s d ev cs hcs hsz ho cur nn hcl p cc hm (m - i) (m + j - i) i (by omega) (by omega) (fv) _ (H2.takes [0] (by decide))) ?_)
      rintro _ wq9 ⟨rfl, H10⟩
      replace H10 : S wq9 [Rw 30 10 p nn cc (mV ev (swR d (m - i) (m + j - i) i cur)), Old w (fps [Rw 30 10 p nn cc (mV ev z)])] := H2.absorbI (new := [Rw 30 10 p nn cc (mV ev (swR d (m - i) (m + j - i) i cur))]) [0] H10
      refine b_ret rfl rfl ?_
      refine g_nil ?_
      refine g_then ?_
      refine g_weak [(0, .slice p nn cc), (2, .int .i64 ((m : Int))), (4, fv), (10, .int .i64 ((i : Int))), (11, .int .i64 ((j : Int)))] ⟨rfl, rfl, rfl, rfl, rfl, trivial⟩ ?_
      refine g_region ?_
      refine l_of (s_val (v := .int .i64 ((j : Int))) (wt0 rfl) rfl rfl (x_move rfl rfl) ?_)
      refine l_of (s_val (v := .int .i64 ((i : Int))) (wt0 rfl) rfl rfl (x_move rfl rfl) ?_)
      refine l_of (s_val (v := .int .i64 (((j - i : Nat) : Int))) (wt0 rfl) rfl rfl (x_bin rfl rfl rfl (b_subN (a := j) (b := i) (by omega))) ?_)
      refine l_of (s_val (v := .int .i64 (((j - i : Nat) : Int))) (wt0 rfl) rfl rfl (x_assign rfl rfl) ?_)
      refine g_nil ?_
      refine g_in ?_
      refine g_then ?_
      refine g_round (i := (n, i, j, cur)) ((n - 1), i, (j - i), (swR d (m - i) (m + j - i) i cur)) ?_ ?_ ?_
      · exact ⟨rfl, rfl, rfl, rfl, rfl, trivial⟩
      · exact ⟨(by omega), (by omega), (by rw [swR_len]; exact hcl), ((rotS_lt (by omega) (by omega) (by omega)).symm.trans hR), (H10.takes [0, 1] (by decide))⟩
      · (try dsimp only); omega
set_option maxRecDepth 20000 in
set_option maxHeartbeats 4000000 in
set_option maxRecDepth 20000 in
set_option maxHeartbeats 4000000 in
theorem insS_s {β : Type} (d : β) (ev : β → Value) (cs : β → Array Value) (hcs : ∀ x, ev x = .agg (cs x)) (hsz : ∀ x, (ev x).cells.size = 10) (ho : ∀ x, (ev x).cells.toList.all (·.oneCell') = true) (z : List β) (nn : Nat) (hz : z.length = nn) (p : Option Addr) (cc : Nat) (hm : nn ≤ 1099511627776) (c : β → β → Int) (gc : Nat) (fi ca : Array Value) (X : Item) (hc : Cmps Tryz.prog gc fi ca X ev c z) (a b : Nat) (hab : a ≤ b) (hb : b ≤ nn) (w : World) (HS : S w [Rw 30 10 p nn cc (mV ev z), X]) : Calls Tryz.prog 106 #[.slice p nn cc, .int .i64 ((a : Int)), .int .i64 ((b : Int)), .func (.func gc) fi ca] w fun e w' => e = .returned (.tuple #[]) ∧ S w' ([Rw 30 10 p nn cc (mV ev (insS d c a b z)), X] ++ [Old w (fps [Rw 30 10 p nn cc (mV ev z), X])]) := by
  have H00 := HS.beginI
  have H0 : S w ([Rw 30 10 p nn cc (mV ev z), X, Old w (fps [Rw 30 10 p nn cc (mV ev z), X])]) := H00
  refine enter 53 Tryz.func106 rfl rfl rfl ?_
  refine g_weak [(0, .slice p nn cc), (1, .int .i64 ((a : Int))), (2, .int .i64 ((b : Int))), (3, .func (.func gc) fi ca)] ⟨rfl, rfl, rfl, rfl, trivial⟩ ?_
  refine g_seq ?_
  refine g_region ?_
  refine l_of (s_val (v := .int .i64 ((a : Int))) (wt0 rfl) rfl rfl (x_move rfl rfl) ?_)
  refine l_of (s_val (v := .int .i64 (((a + 1 : Nat) : Int))) (wt0 rfl) rfl rfl (x_bin rfl rfl rfl (b_addN (a := a) (b := 1) (by omega))) ?_)
  refine l_of (s_val (v := .int .i64 (((a + 1 : Nat) : Int))) (wt0 rfl) rfl rfl (x_assign rfl rfl) ?_)
  refine g_nil ?_
  refine g_then ?_
  refine g_block ?_
  refine g_loop (ι := Nat × List β) (fun (i, cur) => [(0, .slice p nn cc), (1, .int .i64 ((a : Int))), (2, .int .i64 ((b : Int))), (3, .func (.func gc) fi ca), (8, .int .i64 ((i : Int)))]) (fun (i, cur) wx => (a + 1 ≤ i ∧ i ≤ max b (a + 1)) ∧ (cur.length = nn) ∧ (cur.Perm z) ∧ (insOut d c a (b - i) i cur = insS d c a b z) ∧ S wx [Rw 30 10 p nn cc (mV ev cur), X, Old w (fps [Rw 30 10 p nn cc (mV ev z), X])]) (fun (i, cur) => b - i) ((a + 1), z) ⟨rfl, rfl, rfl, rfl, rfl, trivial⟩ ⟨(by omega), hz, (.refl _), rfl, (H0.takes [0, 1, 2] (by decide))⟩ ?_
  rintro ⟨i, cur⟩ wq1 ⟨hi, hcl, hpp, hR, H2⟩
  replace H2 : S wq1 [Rw 30 10 p nn cc (mV ev cur), X, Old w (fps [Rw 30 10 p nn cc (mV ev z), X])] := H2
  refine g_weak [(0, .slice p nn cc), (1, .int .i64 ((a : Int))), (2, .int .i64 ((b : Int))), (3, .func (.func gc) fi ca), (8, .int .i64 ((i : Int)))] ⟨rfl, rfl, rfl, rfl, rfl, trivial⟩ ?_
  refine g_seq ?_
  refine g_seq ?_
  refine g_region ?_
  refine l_of (s_val (v := .int .i64 ((i : Int))) (wt0 rfl) rfl rfl (x_move rfl rfl) ?_)
  refine l_of (s_val (v := .int .i64 ((b : Int))) (wt0 rfl) rfl rfl (x_move rfl rfl) ?_)
  refine l_of (s_val (v := .bool (decide (((i : Int) : Int) < (b : Int)))) (wt0 rfl) rfl rfl (x_bin rfl rfl rfl b_lss) ?_)
  refine g_nil ?_
  refine g_then ?_
  by_cases hb3 : ((i : Int) : Int) < (b : Int)
  · skip
    refine g_cond_t rfl (decide_eq_true hb3) ?_
    refine g_skip ?_
    refine g_then ?_
    refine g_seq ?_
    refine g_block ?_
    refine g_seq ?_
    refine g_region ?_
    refine l_of (s_val (v := .int .i64 ((i : Int))) (wt0 rfl) rfl rfl (x_move rfl rfl) ?_)
    refine l_of (s_val (v := .int .i64 ((i : Int))) (wt0 rfl) rfl rfl (x_assign rfl rfl) ?_)
    refine g_nil ?_
    refine g_then ?_
    refine g_block ?_
    refine g_loop (ι := Nat × List β) (fun (j, cur2) => [(0, .slice p nn cc), (1, .int .i64 ((a : Int))), (2, .int .i64 ((b : Int))), (3, .func (.func gc) fi ca), (8, .int .i64 ((i : Int))), (9, .int .i64 ((j : Int)))]) (fun (j, cur2) wx => (a ≤ j ∧ j ≤ i) ∧ (cur2.length = nn) ∧ (cur2.Perm z) ∧ (insIn d c a j cur2 = insIn d c a i cur) ∧ S wx [Rw 30 10 p nn cc (mV ev cur2), X, Old w (fps [Rw 30 10 p nn cc (mV ev z), X])]) (fun (j, cur2) => j) (i, cur) ⟨rfl, rfl, rfl, rfl, rfl, rfl, trivial⟩ ⟨(by omega), hcl, hpp, rfl, (H2.takes [0, 1, 2] (by decide))⟩ ?_
    rintro ⟨j, cur2⟩ wq4 ⟨hj, hcl2, hpp2, hR2, H5⟩
    replace H5 : S wq4 [Rw 30 10 p nn cc (mV ev cur2), X, Old w (fps [Rw 30 10 p nn cc (mV ev z), X])] := H5
    refine g_weak [(0, .slice p nn cc), (1, .int .i64 ((a : Int))), (2, .int .i64 ((b : Int))), (3, .func (.func gc) fi ca), (8, .int .i64 ((i : Int))), (9, .int .i64 ((j : Int)))] ⟨rfl, rfl, rfl, rfl, rfl, rfl, trivial⟩ ?_
    have hpm : ∀ y, y ∈ cur2 → y ∈ z := fun y hy => (hpp2.mem_iff).1 hy
    refine g_seq ?_
    refine g_seq ?_
    refine g_any [] (fun wx => S wx [Rw 30 10 p nn cc (mV ev cur2), X, Old w (fps [Rw 30 10 p nn cc (mV ev z), X])]) [] (by kernel_rfl) H5 (fun wq6 H7 => ?_)
    refine a_take (v := .int .i64 ((j : Int))) 0 rfl (wt0 rfl) rfl rfl rfl (by kernel_rfl) (by kernel_rfl) (by kernel_rfl) (by kernel_rfl) H7 (fun wx H => x_move rfl rfl) ?_
    refine a_take (v := .int .i64 ((a : Int))) 1 rfl (wt0 rfl) rfl rfl rfl (by kernel_rfl) (by kernel_rfl) (by kernel_rfl) (by kernel_rfl) H7 (fun wx H => x_move rfl rfl) ?_
    refine a_take (v := .bool (decide (((a : Int) : Int) < (j : Int)))) 2 rfl (wt0 rfl) rfl rfl rfl (by kernel_rfl) (by kernel_rfl) (by kernel_rfl) (by kernel_rfl) H7 (fun wx H => x_bin rfl rfl rfl b_gtr) ?_
    refine a_take (v := .bool (decide (((a : Int) : Int) < (j : Int)))) 3 rfl (wt0 rfl) rfl rfl rfl (by kernel_rfl) (by kernel_rfl) (by kernel_rfl) (by kernel_rfl) H7 (fun wx H => x_move rfl rfl) ?_
    by_cases hb8 : ((a : Int) : Int) < (j : Int)
    · skip
      refine a_take (v := .func (.func gc) fi ca) 4 rfl (wt1 rfl rfl rfl rfl (decide_eq_true hb8)) rfl rfl rfl (by kernel_rfl) (by kernel_rfl) (by kernel_rfl) (by kernel_rfl) H7 (fun wx H => x_move rfl rfl) ?_
      refine a_take (v := .slice p nn cc) 5 rfl (wt1 rfl rfl rfl rfl (decide_eq_true hb8)) rfl rfl rfl (by kernel_rfl) (by kernel_rfl) (by kernel_rfl) (by kernel_rfl) H7 (fun wx H => x_move rfl rfl) ?_
      refine a_take (v := .int .i64 ((j : Int))) 6 rfl (wt1 rfl rfl rfl rfl (decide_eq_true hb8)) rfl rfl rfl (by kernel_rfl) (by kernel_rfl) (by kernel_rfl) (by kernel_rfl) H7 (fun wx H => x_move rfl rfl) ?_
      refine a_take (v := .pointer ((p).map fun q => q.add (j * 10))) 7 rfl (wt1 rfl rfl rfl rfl (decide_eq_true hb8)) rfl rfl rfl (by kernel_rfl) (by kernel_rfl) (by kernel_rfl) (by kernel_rfl) H7 (fun wx H => x_idxP j (H7.rwSome (k := 0) rfl (by omega)) rfl rfl rfl Tryz.underlying22 sz30 (by omega)) ?_
      refine a_take (v := ev (cur2.getD j d)) 8 rfl (wt1 rfl rfl rfl rfl (decide_eq_true hb8)) rfl rfl rfl (by kernel_rfl) (by kernel_rfl) (by kernel_rfl) (by kernel_rfl) H7 (fun wx H => ex_cast (x_loadRA (vs := (ev (cur2.getD j d)).cells.toList) j (H.rwReads (k := 0) rfl) (by omega) rfl rfl Tryz.underlying30 rfl sz30 (by rw [Array.length_toList]; exact hsz _) (mV_atR hsz (by omega))) (by rw [hcs]; rfl)) ?_
      refine a_take (v := .slice p nn cc) 9 rfl (wt1 rfl rfl rfl rfl (decide_eq_true hb8)) rfl rfl rfl (by kernel_rfl) (by kernel_rfl) (by kernel_rfl) (by kernel_rfl) H7 (fun wx H => x_move rfl rfl) ?_
      refine a_take (v := .int .i64 ((j : Int))) 10 rfl (wt1 rfl rfl rfl rfl (decide_eq_true hb8)) rfl rfl rfl (by kernel_rfl) (by kernel_rfl) (by kernel_rfl) (by kernel_rfl) H7 (fun wx H => x_move rfl rfl) ?_
      refine a_take (v := .int .i64 (((j - 1 : Nat) : Int))) 11 rfl (wt1 rfl rfl rfl rfl (decide_eq_true hb8)) rfl rfl rfl (by kernel_rfl) (by kernel_rfl) (by kernel_rfl) (by kernel_rfl) H7 (fun wx H => x_bin rfl rfl rfl (b_subN (a := j) (b := 1) (by omega))) ?_
      refine a_take (v := .pointer ((p).map fun q => q.add ((j - 1) * 10))) 12 rfl (wt1 rfl rfl rfl rfl (decide_eq_true hb8)) rfl rfl rfl (by kernel_rfl) (by kernel_rfl) (by kernel_rfl) (by kernel_rfl) H7 (fun wx H => x_idxP (j - 1) (H7.rwSome (k := 0) rfl (by omega)) rfl rfl rfl Tryz.underlying22 sz30 (by omega)) ?_
      refine a_take (v := ev (cur2.getD (j - 1) d)) 13 rfl (wt1 rfl rfl rfl rfl (decide_eq_true hb8)) rfl rfl rfl (by kernel_rfl) (by kernel_rfl) (by kernel_rfl) (by kernel_rfl) H7 (fun wx H => ex_cast (x_loadRA (vs := (ev (cur2.getD (j - 1) d)).cells.toList) (j - 1) (H.rwReads (k := 0) rfl) (by omega) rfl rfl Tryz.underlying30 rfl sz30 (by rw [Array.length_toList]; exact hsz _) (mV_atR hsz (by omega))) (by rw [hcs]; rfl)) ?_
      refine a_one (i := 14) (by kernel_rfl) rfl ?_
      refine s_call (wt1 rfl rfl rfl rfl (decide_eq_true hb8)) (x_call rfl rfl rfl hc.ok) (hc.does _ (hpm _ (getD_mem (by omega))) _ (hpm _ (getD_mem (by omega))) _ (H7.takes [1] (by decide))) ?_
      rintro _ wq9 ⟨rfl, H10⟩
      replace H10 : S wq9 [X, Rw 30 10 p nn cc (mV ev cur2), Old w (fps [Rw 30 10 p nn cc (mV ev z), X])] := H7.absorbI (new := [X]) [1] H10
      refine b_ret rfl rfl ?_
      refine a_k (H10.takes [1, 0, 2] (by decide)) ?_
      refine a_take (v := .bool (decide (((c (cur2.getD j d) (cur2.getD (j - 1) d)) : Int) < 0))) 15 rfl (wt1 rfl rfl rfl rfl (decide_eq_true hb8)) rfl rfl rfl (by kernel_rfl) (by kernel_rfl) (by kernel_rfl) (by kernel_rfl) (H10.takes [1, 0, 2] (by decide)) (fun wx H => x_bin rfl rfl rfl b_lss) ?_
      refine a_take (v := .bool (decide (((c (cur2.getD j d) (cur2.getD (j - 1) d)) : Int) < 0))) 16 rfl (wt0 rfl) rfl rfl rfl (by kernel_rfl) (by kernel_rfl) (by kernel_rfl) (by kernel_rfl) (H10.takes [1, 0, 2] (by decide)) (fun wx H => x_pick_t rfl rfl (decide_eq_true hb8) rfl) ?_
      refine a_done (by kernel_rfl) ?_
      refine g_then ?_
      by_cases hb11 : ((c (cur2.getD j d) (cur2.getD (j - 1) d)) : Int) < 0
      · skip
        refine g_cond_t rfl (decide_eq_true hb11) ?_
        refine g_skip ?_
        refine g_then ?_
        refine g_seq ?_
        refine g_block ?_
        refine g_anyY [] (fun wx => S wx [X, Rw 30 10 p nn cc (mV ev cur2), Old w (fps [Rw 30 10 p nn cc (mV ev z), X])]) (fun wx => S wx [X, Old w (fps [Rw 30 10 p nn cc (mV ev z), X])]) [15, 17] (by kernel_rfl) H10 (fun wq12 H13 => ?_)
        refine y_pure (v := .slice p nn cc) 0 rfl (wt0 rfl) rfl rfl rfl (by kernel_rfl) (by kernel_rfl) (by kernel_rfl) (by kernel_rfl) (fun wx => x_move rfl rfl) ?_
        refine y_pure (v := .int .i64 ((j : Int))) 1 rfl (wt0 rfl) rfl rfl rfl (by kernel_rfl) (by kernel_rfl) (by kernel_rfl) (by kernel_rfl) (fun wx => x_move rfl rfl) ?_
        refine y_pure (v := .slice p nn cc) 2 rfl (wt0 rfl) rfl rfl rfl (by kernel_rfl) (by kernel_rfl) (by kernel_rfl) (by kernel_rfl) (fun wx => x_move rfl rfl) ?_
        refine y_pure (v := .int .i64 ((j : Int))) 3 rfl (wt0 rfl) rfl rfl rfl (by kernel_rfl) (by kernel_rfl) (by kernel_rfl) (by kernel_rfl) (fun wx => x_move rfl rfl) ?_
        refine y_pure (v := .int .i64 (((j - 1 : Nat) : Int))) 4 rfl (wt0 rfl) rfl rfl rfl (by kernel_rfl) (by kernel_rfl) (by kernel_rfl) (by kernel_rfl) (fun wx => x_bin rfl rfl rfl (b_subN (a := j) (b := 1) (by omega))) ?_
        refine y_pure (v := .slice p nn cc) 5 rfl (wt0 rfl) rfl rfl rfl (by kernel_rfl) (by kernel_rfl) (by kernel_rfl) (by kernel_rfl) (fun wx => x_move rfl rfl) ?_
        refine y_pure (v := .int .i64 ((j : Int))) 6 rfl (wt0 rfl) rfl rfl rfl (by kernel_rfl) (by kernel_rfl) (by kernel_rfl) (by kernel_rfl) (fun wx => x_move rfl rfl) ?_
        refine y_pure (v := .int .i64 (((j - 1 : Nat) : Int))) 7 rfl (wt0 rfl) rfl rfl rfl (by kernel_rfl) (by kernel_rfl) (by kernel_rfl) (by kernel_rfl) (fun wx => x_bin rfl rfl rfl (b_subN (a := j) (b := 1) (by omega))) ?_
        refine y_pure (v := .pointer ((p).map fun q => q.add ((j - 1) * 10))) 8 rfl (wt0 rfl) rfl rfl rfl (by kernel_rfl) (by kernel_rfl) (by kernel_rfl) (by kernel_rfl) (fun wx => x_idxP (j - 1) (H13.rwSome (k := 1) rfl (by omega)) rfl rfl rfl Tryz.underlying22 sz30 (by omega)) ?_
        refine y_take (v := ev (cur2.getD (j - 1) d)) 9 rfl (wt0 rfl) rfl rfl rfl (by kernel_rfl) (by kernel_rfl) (by kernel_rfl) (by kernel_rfl) (by kernel_rfl) H13 (fun wx H => ex_cast (x_loadRA (vs := (ev (cur2.getD (j - 1) d)).cells.toList) (j - 1) (H.rwReads (k := 1) rfl) (by omega) rfl rfl Tryz.underlying30 rfl sz30 (by rw [Array.length_toList]; exact hsz _) (mV_atR hsz (by omega))) (by rw [hcs]; rfl)) ?_
        refine y_pure (v := .slice p nn cc) 10 rfl (wt0 rfl) rfl rfl rfl (by kernel_rfl) (by kernel_rfl) (by kernel_rfl) (by kernel_rfl) (fun wx => x_move rfl rfl) ?_
        refine y_pure (v := .int .i64 ((j : Int))) 11 rfl (wt0 rfl) rfl rfl rfl (by kernel_rfl) (by kernel_rfl) (by kernel_rfl) (by kernel_rfl) (fun wx => x_move rfl rfl) ?_
        refine y_pure (v := .pointer ((p).map fun q => q.add (j * 10))) 12 rfl (wt0 rfl) rfl rfl rfl (by kernel_rfl) (by kernel_rfl) (by kernel_rfl) (by kernel_rfl) (fun wx => x_idxP j (H13.rwSome (k := 1) rfl (by omega)) rfl rfl rfl Tryz.underlying22 sz30 (by omega)) ?_
        refine y_take (v := ev (cur2.getD j d)) 13 rfl (wt0 rfl) rfl rfl rfl (by kernel_rfl) (by kernel_rfl) (by kernel_rfl) (by kernel_rfl) (by kernel_rfl) H13 (fun wx H => ex_cast (x_loadRA (vs := (ev (cur2.getD j d)).cells.toList) j (H.rwReads (k := 1) rfl) (by omega) rfl rfl Tryz.underlying30 rfl sz30 (by rw [Array.length_toList]; exact hsz _) (mV_atR hsz (by omega))) (by rw [hcs]; rfl)) ?_
        refine y_pure (v := .pointer ((p).map fun q => q.add (j * 10))) 14 rfl (wt0 rfl) rfl rfl rfl (by kernel_rfl) (by kernel_rfl) (by kernel_rfl) (by kernel_rfl) (fun wx => x_idxP j (H13.rwSome (k := 1) rfl (by omega)) rfl rfl rfl Tryz.underlying22 sz30 (by omega)) ?_
        refine y_one (i := 15) (by kernel_rfl) rfl ?_
        refine s_storeW (j := j) H13 1 (wt0 rfl) rfl rfl rfl rfl rfl (by rw [hsz]; exact sz30) (hsz _) (ho _) (by omega) ?_
        intro wq14 H15
        rw [mV_set hsz (cur2.getD (j - 1) d) (by first | omega | (simp only [List.length_set]; omega))] at H15
        replace H15 : S wq14 [X, Rw 30 10 p nn cc (mV ev (cur2.set j (cur2.getD (j - 1) d))), Old w (fps [Rw 30 10 p nn cc (mV ev z), X])] := H15
        refine y_kt rfl (H15.mask [true, false, true]) ?_
        refine y_pure (v := .pointer ((p).map fun q => q.add ((j - 1) * 10))) 16 rfl (wt0 rfl) rfl rfl rfl (by kernel_rfl) (by kernel_rfl) (by kernel_rfl) (by kernel_rfl) (fun wx => x_idxP (j - 1) (H15.rwSome (k := 1) rfl (by omega)) rfl rfl rfl Tryz.underlying22 sz30 (by omega)) ?_
        refine y_one (i := 17) (by kernel_rfl) rfl ?_
        refine s_storeW (j := (j - 1)) H15 1 (wt0 rfl) rfl rfl rfl rfl rfl (by rw [hsz]; exact sz30) (hsz _) (ho _) (by omega) ?_
        intro wq16 H17
        rw [mV_set hsz (cur2.getD j d) (by first | omega | (simp only [List.length_set]; omega))] at H17
        replace H17 : S wq16 [X, Rw 30 10 p nn cc (mV ev ((cur2.set j (cur2.getD (j - 1) d)).set (j - 1) (cur2.getD j d))), Old w (fps [Rw 30 10 p nn cc (mV ev z), X])] := H17
        refine y_kt rfl (H17.mask [true, false, true]) ?_
        refine y_done (by kernel_rfl) ?_
        refine g_in ?_
        refine g_then ?_
        refine g_weak [(0, .slice p nn cc), (1, .int .i64 ((a : Int))), (2, .int .i64 ((b : Int))), (3, .func (.func gc) fi ca), (8, .int .i64 ((i : Int))), (9, .int .i64 ((j : Int))), (22, .func (.func gc) fi ca), (23, .slice p nn cc), (24, .int .i64 ((j : Int))), (25, .pointer ((p).map fun q => q.add (j * 10))), (26, ev (cur2.getD j d)), (27, .slice p nn cc), (28, .int .i64 ((j : Int))), (29, .int .i64 (((j - 1 : Nat) : Int))), (30, .pointer ((p).map fun q => q.add ((j - 1) * 10))), (31, ev (cur2.getD (j - 1) d)), (32, .int .i64 ((c (cur2.getD j d) (cur2.getD (j - 1) d)))), (33, .bool (decide (((c (cur2.getD j d) (cur2.getD (j - 1) d)) : Int) < 0)))] ⟨rfl, rfl, rfl, rfl, rfl, rfl, rfl, rfl, rfl, rfl, rfl, rfl, rfl, rfl, rfl, rfl, rfl, rfl, trivial⟩ ?_
        refine g_region ?_
        refine l_of (s_val (v := .int .i64 ((j : Int))) (wt0 rfl) rfl rfl (x_move rfl rfl) ?_)
        refine l_of (s_val (v := .int .i64 (((j - 1 : Nat) : Int))) (wt0 rfl) rfl rfl (x_bin rfl rfl rfl (b_subN (a := j) (b := 1) (by omega))) ?_)
        refine l_of (s_val (v := .int .i64 (((j - 1 : Nat) : Int))) (wt0 rfl) rfl rfl (x_assign rfl rfl) ?_)
        refine g_nil ?_
        refine g_then ?_
        refine g_round (i := (j, cur2)) ((j - 1), ((cur2.set j (cur2.getD (j - 1) d)).set (j - 1) (cur2.getD j d))) ?_ ?_ ?_
        · exact ⟨rfl, rfl, rfl, rfl, rfl, rfl, trivial⟩
        · exact ⟨(by omega), (by simp only [List.length_set]; exact hcl2), ((swp_perm (by omega) (by omega)).trans hpp2), ((insIn_go (by omega) hb11).symm.trans hR2), (H17.takes [1, 0, 2] (by decide))⟩
        · (try dsimp only); omega
      · skip
        refine g_cond_f rfl (decide_eq_false hb11) ?_
        refine g_exit ?_
        have hE : insIn d c a i cur = cur2 := hR2.symm.trans (insIn_stop hb11)
        refine g_then_exit ?_
        refine g_then_exit ?_
        refine g_in_hit ?_
        refine g_in ?_
        refine g_then ?_
        refine g_region ?_
        refine l_of (s_val (v := .int .i64 ((i : Int))) (wt0 rfl) rfl rfl (x_move rfl rfl) ?_)
        refine l_of (s_val (v := .int .i64 (((i + 1 : Nat) : Int))) (wt0 rfl) rfl rfl (x_bin rfl rfl rfl (b_addN (a := i) (b := 1) (by omega))) ?_)
        refine l_of (s_val (v := .int .i64 (((i + 1 : Nat) : Int))) (wt0 rfl) rfl rfl (x_assign rfl rfl) ?_)
        refine g_nil ?_
        refine g_then ?_
        refine g_round (i := (i, cur)) ((i + 1), cur2) ?_ ?_ ?_
        · exact ⟨rfl, rfl, rfl, rfl, rfl, trivial⟩
        · exact ⟨(by omega), hcl2, hpp2, (by rw [← hE, ← insOut_go (by omega)]; exact hR), (H10.takes [1, 0, 2] (by decide))⟩
        · (try dsimp only); omega
    · skip
      refine a_not 4 rfl (wn1 rfl rfl rfl rfl (decide_eq_false hb8)) rfl rfl rfl (by kernel_rfl) (by kernel_rfl) (by kernel_rfl) (by kernel_rfl) H7 ?_
      refine a_not 5 rfl (wn1 rfl rfl rfl rfl (decide_eq_false hb8)) rfl rfl rfl (by kernel_rfl) (by kernel_rfl) (by kernel_rfl) (by kernel_rfl) H7 ?_
      refine a_not 6 rfl (wn1 rfl rfl rfl rfl (decide_eq_false hb8)) rfl rfl rfl (by kernel_rfl) (by kernel_rfl) (by kernel_rfl) (by kernel_rfl) H7 ?_
      refine a_not 7 rfl (wn1 rfl rfl rfl rfl (decide_eq_false hb8)) rfl rfl rfl (by kernel_rfl) (by kernel_rfl) (by kernel_rfl) (by kernel_rfl) H7 ?_
      refine a_not 8 rfl (wn1 rfl rfl rfl rfl (decide_eq_false hb8)) rfl rfl rfl (by kernel_rfl) (by kernel_rfl) (by kernel_rfl) (by kernel_rfl) H7 ?_
      refine a_not 9 rfl (wn1 rfl rfl rfl rfl (decide_eq_false hb8)) rfl rfl rfl (by kernel_rfl) (by kernel_rfl) (by kernel_rfl) (by kernel_rfl) H7 ?_
      refine a_not 10 rfl (wn1 rfl rfl rfl rfl (decide_eq_false hb8)) rfl rfl rfl (by kernel_rfl) (by kernel_rfl) (by kernel_rfl) (by kernel_rfl) H7 ?_
      refine a_not 11 rfl (wn1 rfl rfl rfl rfl (decide_eq_false hb8)) rfl rfl rfl (by kernel_rfl) (by kernel_rfl) (by kernel_rfl) (by kernel_rfl) H7 ?_
      refine a_not 12 rfl (wn1 rfl rfl rfl rfl (decide_eq_false hb8)) rfl rfl rfl (by kernel_rfl) (by kernel_rfl) (by kernel_rfl) (by kernel_rfl) H7 ?_
      refine a_not 13 rfl (wn1 rfl rfl rfl rfl (decide_eq_false hb8)) rfl rfl rfl (by kernel_rfl) (by kernel_rfl) (by kernel_rfl) (by kernel_rfl) H7 ?_
      refine a_one (i := 14) (by kernel_rfl) rfl ?_
      refine s_not (wn1 rfl rfl rfl rfl (decide_eq_false hb8)) rfl rfl ?_
      refine a_k H7 ?_
      refine a_not 15 rfl (wn1 rfl rfl rfl rfl (decide_eq_false hb8)) rfl rfl rfl (by kernel_rfl) (by kernel_rfl) (by kernel_rfl) (by kernel_rfl) H7 ?_
      refine a_take (v := .bool false) 16 rfl (wt0 rfl) rfl rfl rfl (by kernel_rfl) (by kernel_rfl) (by kernel_rfl) (by kernel_rfl) H7 (fun wx H => x_pick_f rfl rfl (decide_eq_false hb8) rfl) ?_
      refine a_done (by kernel_rfl) ?_
      refine g_then ?_
      refine g_cond_f rfl rfl ?_
      refine g_exit ?_
      have hE : insIn d c a i cur = cur2 := hR2.symm.trans (insIn_end (by omega))
      refine g_then_exit ?_
      refine g_then_exit ?_
      refine g_in_hit ?_
      refine g_in ?_
      refine g_then ?_
      refine g_region ?_
      refine l_of (s_val (v := .int .i64 ((i : Int))) (wt0 rfl) rfl rfl (x_move rfl rfl) ?_)
      refine l_of (s_val (v := .int .i64 (((i + 1 : Nat) : Int))) (wt0 rfl) rfl rfl (x_bin rfl rfl rfl (b_addN (a := i) (b := 1) (by omega))) ?_)
      refine l_of (s_val (v := .int .i64 (((i + 1 : Nat) : Int))) (wt0 rfl) rfl rfl (x_assign rfl rfl) ?_)
      refine g_nil ?_
      refine g_then ?_
      refine g_round (i := (i, cur)) ((i + 1), cur2) ?_ ?_ ?_
      · exact ⟨rfl, rfl, rfl, rfl, rfl, trivial⟩
      · exact ⟨(by omega), hcl2, hpp2, (by rw [← hE, ← insOut_go (by omega)]; exact hR), (H7.takes [0, 1, 2] (by decide))⟩
      · (try dsimp only); omega
  · skip
    refine g_cond_f rfl (decide_eq_false hb3) ?_
    refine g_exit ?_
    refine g_then_exit ?_
    refine g_then_exit ?_
    refine g_in_hit ?_
    refine fin_end [] [] rfl trivial ?_
    exact ⟨rfl, by rw [← hR, insOut_end (by omega)]; exact (H2.takes [0, 1, 2] (by decide))⟩
end Go.Proofs.YthfglkkjkpdkpaaGreatDoor
