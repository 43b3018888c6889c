import Derived.Test.YthfglkkjkpdkpaaDoorNg
set_option linter.unusedSimpArgs false
set_option linter.unusedVariables false
namespace Go.Proofs.YthfglkkjkpdkpaaDoor
open Go.RowKit

theorem cl25 : callable Tryd.prog 25 = true := by kernel_rfl
theorem cl26 : callable Tryd.prog 26 = true := by kernel_rfl
theorem cl27 : callable Tryd.prog 27 = true := by kernel_rfl
theorem cl28 : callable Tryd.prog 28 = true := by kernel_rfl
theorem cl44 : callable Tryd.prog 44 = true := by kernel_rfl
theorem fo52_0 : foO Tryd.prog 52 0 = some 0 := by kernel_rfl
theorem fo52_1 : foO Tryd.prog 52 1 = some 1 := by kernel_rfl
theorem fo52_2 : foO Tryd.prog 52 2 = some 2 := by kernel_rfl
theorem fo61_0 : foO Tryd.prog 61 0 = some 0 := by kernel_rfl
theorem fo61_1 : foO Tryd.prog 61 1 = some 1 := by kernel_rfl
theorem fo61_2 : foO Tryd.prog 61 2 = some 2 := by kernel_rfl
theorem sz61 : szO Tryd.prog 61 = some 3 := by kernel_rfl
theorem ze61 : zeO Tryd.prog 61 = some (.agg #[.int .i64 0, .slice none 0 0, .slice none 0 0]) := by kernel_rfl
set_option maxRecDepth 20000 in
set_option maxHeartbeats 4000000 in
set_option maxRecDepth 20000 in
set_option maxHeartbeats 4000000 in
theorem askedr_s (g : Nat) (id : Int)  (w : World) : Calls Tryd.prog 25 #[.pointer (some ⟨g, 0, none⟩), .int .i64 id] w fun e w' => e = .returned (.int .i64 (ask7 id)) ∧ S w' [Old w no] := by
  have H0 := S.old w
  refine enter 11 Tryd.func25 rfl rfl rfl ?_
  refine g_weak [(0, .pointer (some ⟨g, 0, none⟩)), (1, .int .i64 id)] ⟨rfl, rfl, trivial⟩ ?_
  refine g_seq ?_
  refine g_region ?_
  refine l_of (s_val (v := .int .i64 0) (wt0 rfl) rfl rfl (x_assign rfl rfl) ?_)
  refine g_nil ?_
  refine g_then ?_
  refine g_seq ?_
  refine g_block ?_
  refine g_seq ?_
  refine g_region ?_
  refine l_of (s_val (v := .pointer (some ⟨g, 0, none⟩)) (wt0 rfl) rfl rfl (x_move rfl rfl) ?_)
  refine l_of (s_val (v := .bool false) (wt0 rfl) rfl rfl (x_bin rfl rfl rfl (b_eqN (r := false) Tryd.underlying28 rfl)) ?_)
  refine l_of (s_val (v := .bool false) (wt0 rfl) rfl rfl (x_assign rfl rfl) ?_)
  refine g_nil ?_
  refine g_then ?_
  refine g_cond_f rfl rfl ?_
  refine g_seq ?_
  refine g_region ?_
  refine l_of (s_val (v := .int .i64 id) (wt0 rfl) rfl rfl (x_move rfl rfl) ?_)
  refine l_of (s_val (v := .bool (decide ((id : Int) < 0))) (wt0 rfl) rfl rfl (x_bin rfl rfl rfl b_lss) ?_)
  refine l_of (s_val (v := .bool (decide ((id : Int) < 0))) (wt0 rfl) rfl rfl (x_assign rfl rfl) ?_)
  refine g_nil ?_
  refine g_then ?_
  by_cases hb1 : (id : Int) < 0
  · skip
    refine g_cond_t rfl (decide_eq_true hb1) ?_
    refine g_seq ?_
    refine g_region ?_
    refine l_of (s_val (v := .int .i64 7) (wt0 rfl) rfl rfl (x_assign rfl rfl) ?_)
    refine g_nil ?_
    refine g_then ?_
    refine g_ret ?_
    refine g_in_ret ?_
    refine g_then_ret ?_
    refine fin_ret [.tmp 4] [.int .i64 7] rfl ⟨rfl, trivial⟩ ?_
    exact ⟨by unfold ask7; simp [hb1, tupled], H0.mask [true]⟩
  · skip
    refine g_cond_f rfl (decide_eq_false hb1) ?_
    refine g_skip ?_
    refine g_in ?_
    refine g_then ?_
    refine g_seq ?_
    refine g_region ?_
    refine l_of (s_val (v := .int .i64 0) (wt0 rfl) rfl rfl (x_assign rfl rfl) ?_)
    refine g_nil ?_
    refine g_then ?_
    refine g_ret ?_
    refine fin_ret [.tmp 4] [.int .i64 0] rfl ⟨rfl, trivial⟩ ?_
    exact ⟨by unfold ask7; simp [hb1, tupled], H0.mask [true]⟩
set_option maxRecDepth 20000 in
set_option maxHeartbeats 4000000 in
set_option maxRecDepth 20000 in
set_option maxHeartbeats 4000000 in
theorem findr_s (j h : Nat) (pp : Option Addr) (kc : Nat) (seed : ByteArray) (n : Nat) (rs : List Shr) (hZ : PI j (⟨seed, n, rs.map Shr.sh⟩ : SP)) (hj : j ≤ 1000) (id : Int)  (w : World) (HS : S w [Ob h (.cells #[.string seed, .int .i64 ((n : Int)), .slice pp rs.length kc] 52 (0, 0)), Rw 61 3 pp rs.length kc (fl shwL rs), (Lst RoI rs)]) : Calls Tryd.prog 26 #[.pointer (some ⟨h, 0, none⟩), .int .i64 id] w fun e w' => (∃ (i : Nat) (x : Shr), rs[i]? = some x ∧ x.id = id ∧ fnd (rs.map Shr.sh) id = some i ∧ e = .returned (.int .i64 (i : Int)) ∧ S w' ([Ob h (.cells #[.string seed, .int .i64 ((n : Int)), .slice pp rs.length kc] 52 (0, 0)), Rw 61 3 pp rs.length kc (fl shwL rs), (Lst RoI rs)] ++ [Old w (fps [Ob h (.cells #[.string seed, .int .i64 ((n : Int)), .slice pp rs.length kc] 52 (0, 0)), Rw 61 3 pp rs.length kc (fl shwL rs), (Lst RoI rs)])])) ∨ (fnd (rs.map Shr.sh) id = none ∧ e = .returned (.int .i64 (-1)) ∧ S w' ([Ob h (.cells #[.string seed, .int .i64 ((n : Int)), .slice pp rs.length kc] 52 (0, 0)), Rw 61 3 pp rs.length kc (fl shwL rs), (Lst RoI rs)] ++ [Old w (fps [Ob h (.cells #[.string seed, .int .i64 ((n : Int)), .slice pp rs.length kc] 52 (0, 0)), Rw 61 3 pp rs.length kc (fl shwL rs), (Lst RoI rs)])])) := by
  have H00 := HS.beginI
  have H0 : S w ([Ob h (.cells #[.string seed, .int .i64 ((n : Int)), .slice pp rs.length kc] 52 (0, 0)), Rw 61 3 pp rs.length kc (fl shwL rs), (Lst RoI rs), Old w (fps [Ob h (.cells #[.string seed, .int .i64 ((n : Int)), .slice pp rs.length kc] 52 (0, 0)), Rw 61 3 pp rs.length kc (fl shwL rs), (Lst RoI rs)])]) := H00
  have hPI : PI j (⟨seed, n, rs.map Shr.sh⟩ : SP) := hZ
  have hps : rs.length ≤ j := by have := hPI.len; simpa using this
  have hn30 : n ≤ 30 := hPI.n30
  have hrok : ∀ (i9 : Nat) (x9 : Shr), rs[i9]? = some x9 → x9.told.length ≤ j ∧ x9.holds.length ≤ j := fun i9 x9 h9 => by have h8 := hPI.at (i := i9) (p := x9.sh) (by show (rs.map Shr.sh)[i9]? = _; rw [List.getElem?_map, h9]; rfl); exact ⟨h8.2.1, h8.2.2.1⟩
  refine enter 23 Tryd.func26 rfl rfl rfl ?_
  refine g_weak [(0, .pointer (some ⟨h, 0, none⟩)), (1, .int .i64 id)] ⟨rfl, rfl, trivial⟩ ?_
  refine g_seq ?_
  refine g_region ?_
  refine l_of (s_val (v := .int .i64 0) (wt0 rfl) rfl rfl (x_assign rfl rfl) ?_)
  refine g_nil ?_
  refine g_then ?_
  refine g_seq ?_
  refine g_seq ?_
  refine g_region ?_
  refine l_of (s_val (v := .pointer (some ⟨h, 0, none⟩)) (wt0 rfl) rfl rfl (x_move rfl rfl) ?_)
  refine l_of (s_val (v := .pointer (some ⟨h, 0, none⟩)) (wt0 rfl) rfl rfl (x_nilCheck rfl rfl) ?_)
  refine l_of (s_val (v := .pointer (some ⟨h, 2, none⟩)) (wt0 rfl) rfl rfl (x_fieldAddr rfl rfl fo52_2 rfl) ?_)
  refine l_of (s_val (v := .slice pp rs.length kc) (wt0 rfl) rfl rfl (x_load1 H0 0 rfl rfl Tryd.underlying50 rfl rfl rfl) ?_)
  refine l_of (s_val (v := .int .i64 ((rs.length : Int))) (wt0 rfl) rfl rfl (x_lenl rfl rfl Tryd.underlying50) ?_)
  refine l_of (s_val (v := .int .i64 0) (wt0 rfl) rfl rfl (x_move rfl rfl) ?_)
  refine g_nil ?_
  refine g_then ?_
  refine g_block ?_
  refine g_loop (ι := Nat) (fun i => [(1, .int .i64 id), (10, .slice pp rs.length kc), (11, .int .i64 ((rs.length : Int))), (12, .int .i64 ((i : Int)))]) (fun i wx => (i ≤ rs.length) ∧ (∀ y ∈ rs.take i, ¬ y.id = id) ∧ S wx [Ob h (.cells #[.string seed, .int .i64 ((n : Int)), .slice pp rs.length kc] 52 (0, 0)), Rw 61 3 pp rs.length kc (fl shwL rs), (Lst RoI rs), Old w (fps [Ob h (.cells #[.string seed, .int .i64 ((n : Int)), .slice pp rs.length kc] 52 (0, 0)), Rw 61 3 pp rs.length kc (fl shwL rs), (Lst RoI rs)])]) (fun i => rs.length - i) (0) ⟨rfl, rfl, rfl, rfl, trivial⟩ ⟨Nat.zero_le _, (fun y hy => by simp at hy), (H0.takes [0, 1, 2, 3] (by decide))⟩ ?_
  rintro i wq1 ⟨hi, hno, H2⟩
  replace H2 : S wq1 [Ob h (.cells #[.string seed, .int .i64 ((n : Int)), .slice pp rs.length kc] 52 (0, 0)), Rw 61 3 pp rs.length kc (fl shwL rs), (Lst RoI rs), Old w (fps [Ob h (.cells #[.string seed, .int .i64 ((n : Int)), .slice pp rs.length kc] 52 (0, 0)), Rw 61 3 pp rs.length kc (fl shwL rs), (Lst RoI rs)])] := H2
  refine g_weak [(1, .int .i64 id), (10, .slice pp rs.length kc), (11, .int .i64 ((rs.length : Int))), (12, .int .i64 ((i : Int)))] ⟨rfl, rfl, rfl, rfl, trivial⟩ ?_
  refine g_seq ?_
  refine g_region ?_
  refine l_of (s_val (v := .bool (decide (((i : Int) : Int) < (rs.length : Int)))) (wt0 rfl) rfl rfl (x_bin rfl rfl rfl b_lss) ?_)
  refine g_nil ?_
  refine g_then ?_
  refine g_seq ?_
  by_cases hb3 : ((i : Int) : Int) < (rs.length : Int)
  · skip
    refine g_cond_t rfl (decide_eq_true hb3) ?_
    refine g_skip ?_
    refine g_then ?_
    refine g_seq ?_
    refine g_block ?_
    refine g_seq ?_
    refine g_region ?_
    refine l_of (s_val (v := .int .i64 ((i : Int))) (wt0 rfl) rfl rfl (x_move rfl rfl) ?_)
    refine l_of (s_val (v := .pointer ((pp).map fun q => q.add (i * 3))) (wt0 rfl) rfl rfl (x_idxR i (H2.rwReads (k := 1) rfl) rfl rfl rfl Tryd.underlying50 sz61 (by omega)) ?_)
    have hlq := (H2.rwReads (k := 1) rfl).lenL shwE
    obtain ⟨x4, hx4⟩ := ex_at (l := rs) (j := i) (by omega)
    clear hlq
    have hlx4 := hrok i x4 hx4
    refine l_of (s_val (v := .agg #[.int .i64 (x4.id), .slice x4.tp x4.told.length x4.tc, .slice x4.hp x4.holds.length x4.hc]) (wt0 rfl) rfl rfl (x_loadRA (vs := shwL x4) i (H2.rwReads (k := 1) rfl) (by omega) rfl rfl Tryd.underlying61 rfl sz61 (by rfl) (shwE.flAt hx4)) ?_)
    refine l_of (s_alloc H2 (wt0 rfl) rfl rfl rfl ze61 ?_)
    intro g5 wq6 H7
    refine l_of (s_val (v := .int .i64 ((i : Int))) (wt0 rfl) rfl rfl (x_assign rfl rfl) ?_)
    refine l_of (s_store H7 0 (wt0 rfl) rfl rfl rfl rfl rfl sz61 rfl rfl (cs' := #[.int .i64 (x4.id), .slice x4.tp x4.told.length x4.tc, .slice x4.hp x4.holds.length x4.hc]) rfl ?_)
    intro wq8 H9
    refine g_nil ?_
    refine g_then ?_
    refine g_seq ?_
    refine g_region ?_
    refine l_of (s_val (v := .pointer (some ⟨g5, 0, none⟩)) (wt0 rfl) rfl rfl (x_fieldAddr rfl rfl fo61_0 rfl) ?_)
    refine l_of (s_val (v := .int .i64 (x4.id)) (wt0 rfl) rfl rfl (x_load1 H9 0 rfl rfl Tryd.underlying3 rfl rfl rfl) ?_)
    refine l_of (s_val (v := .int .i64 id) (wt0 rfl) rfl rfl (x_move rfl rfl) ?_)
    refine l_of (s_val (v := .bool (decide ((x4.id : Int) = id))) (wt0 rfl) rfl rfl (x_bin rfl rfl rfl b_eql) ?_)
    refine g_nil ?_
    refine g_then ?_
    by_cases hb10 : (x4.id : Int) = id
    · skip
      refine g_cond_t rfl (decide_eq_true hb10) ?_
      refine g_seq ?_
      refine g_region ?_
      refine l_of (s_val (v := .int .i64 ((i : Int))) (wt0 rfl) rfl rfl (x_move rfl rfl) ?_)
      refine l_of (s_val (v := .int .i64 ((i : Int))) (wt0 rfl) rfl rfl (x_assign rfl rfl) ?_)
      refine g_nil ?_
      refine g_then ?_
      refine g_weak [(4, .int .i64 ((i : Int)))] ⟨rfl, trivial⟩ ?_
      refine g_ret ?_
      refine g_in_ret ?_
      refine g_then_ret ?_
      refine g_then_ret ?_
      refine g_in_ret ?_
      refine g_then_ret ?_
      refine fin_ret [.tmp 4] [.int .i64 ((i : Int))] rfl ⟨rfl, trivial⟩ ?_
      exact .inl ⟨i, x4, hx4, hb10, fnd_of hPI.nd (by show (rs.map Shr.sh)[i]? = some x4.sh; rw [List.getElem?_map, hx4]; rfl) hb10, rfl, H9.takes [1, 2, 3, 4] (by decide)⟩
    · skip
      refine g_cond_f rfl (decide_eq_false hb10) ?_
      refine g_skip ?_
      refine g_in ?_
      refine g_then ?_
      refine g_region ?_
      refine l_of (s_val (v := .int .i64 (((i + 1 : Nat) : Int))) (wt0 rfl) rfl rfl (x_bin rfl rfl rfl (b_add (by rw [w64 (by omega)]; omega))) ?_)
      refine l_of (s_val (v := .int .i64 (((i + 1 : Nat) : Int))) (wt0 rfl) rfl rfl (x_move rfl rfl) ?_)
      refine g_nil ?_
      refine g_then ?_
      refine g_round (i := (i)) ((i + 1)) ?_ ?_ ?_
      · exact ⟨rfl, rfl, rfl, rfl, trivial⟩
      · exact ⟨by omega, (no_takeP hno hx4 hb10), (H9.takes [1, 2, 3, 4] (by decide))⟩
      · (try dsimp only); omega
  · skip
    refine g_cond_f rfl (decide_eq_false hb3) ?_
    refine g_exit ?_
    refine g_then_exit ?_
    refine g_then_exit ?_
    refine g_in_hit ?_
    refine g_then ?_
    refine g_seq ?_
    refine g_region ?_
    refine l_of (s_val (v := .int .i64 (-1)) (wt0 rfl) rfl rfl (x_assign rfl rfl) ?_)
    refine g_nil ?_
    refine g_then ?_
    refine g_ret ?_
    refine fin_ret [.tmp 4] [.int .i64 (-1)] rfl ⟨rfl, trivial⟩ ?_
    rw [List.take_of_length_le (by omega)] at hno
    exact .inr ⟨fnd_no (fun q hq => by obtain ⟨y, hy, rfl⟩ := List.mem_map.1 hq; exact hno y hy), rfl, H2.takes [0, 1, 2, 3] (by decide)⟩
theorem tcN_snoc (l : List Shr) (x : Shr) (k : Int) : (tcN ((l ++ [x]).map Shr.sh) k : Int) = tcN (l.map Shr.sh) k + if k ∈ x.told then 1 else 0 := by
  unfold tcN
  rw [List.map_append, List.filter_append, List.length_append, List.map_singleton, List.filter_cons]
  by_cases h : k ∈ x.told
  · rw [if_pos h, if_pos (show decide (k ∈ x.sh.told) = true from decide_eq_true h)]; simp
  · rw [if_neg h, if_neg (show ¬ decide (k ∈ x.sh.told) = true from by rw [decide_eq_true_iff]; exact h)]; simp
theorem hcN_snoc (l : List Shr) (x : Shr) (k : Int) : (hcN ((l ++ [x]).map Shr.sh) k : Int) = hcN (l.map Shr.sh) k + if k ∈ x.holds then 1 else 0 := by
  unfold hcN
  rw [List.map_append, List.filter_append, List.length_append, List.map_singleton, List.filter_cons]
  by_cases h : k ∈ x.holds
  · rw [if_pos h, if_pos (show decide (k ∈ x.sh.holds) = true from decide_eq_true h)]; simp
  · rw [if_neg h, if_neg (show ¬ decide (k ∈ x.sh.holds) = true from by rw [decide_eq_true_iff]; exact h)]; simp
set_option maxRecDepth 20000 in
set_option maxHeartbeats 4000000 in
set_option maxRecDepth 20000 in
set_option maxHeartbeats 4000000 in
theorem countsr_s (j h : Nat) (pp : Option Addr) (kc : Nat) (seed : ByteArray) (n : Nat) (rs : List Shr) (hZ : PI j (⟨seed, n, rs.map Shr.sh⟩ : SP)) (hj : j ≤ 1000) (k : Int)  (w : World) (HS : S w [Ob h (.cells #[.string seed, .int .i64 ((n : Int)), .slice pp rs.length kc] 52 (0, 0)), Rw 61 3 pp rs.length kc (fl shwL rs), (Lst RoI rs)]) : Calls Tryd.prog 28 #[.pointer (some ⟨h, 0, none⟩), .int .i64 k] w fun e w' => e = .returned (.tuple #[.int .i64 (tcN (rs.map Shr.sh) k : Int), .int .i64 (hcN (rs.map Shr.sh) k : Int)]) ∧ S w' ([Ob h (.cells #[.string seed, .int .i64 ((n : Int)), .slice pp rs.length kc] 52 (0, 0)), Rw 61 3 pp rs.length kc (fl shwL rs), (Lst RoI rs)] ++ [Old w (fps [Ob h (.cells #[.string seed, .int .i64 ((n : Int)), .slice pp rs.length kc] 52 (0, 0)), Rw 61 3 pp rs.length kc (fl shwL rs), (Lst RoI rs)])]) := by
  have H00 := HS.beginI
  have H0 : S w ([Ob h (.cells #[.string seed, .int .i64 ((n : Int)), .slice pp rs.length kc] 52 (0, 0)), Rw 61 3 pp rs.length kc (fl shwL rs), (Lst RoI rs), Old w (fps [Ob h (.cells #[.string seed, .int .i64 ((n : Int)), .slice pp rs.length kc] 52 (0, 0)), Rw 61 3 pp rs.length kc (fl shwL rs), (Lst RoI rs)])]) := H00
  have hPI : PI j (⟨seed, n, rs.map Shr.sh⟩ : SP) := hZ
  have hps : rs.length ≤ j := by have := hPI.len; simpa using this
  have hn30 : n ≤ 30 := hPI.n30
  have hrok : ∀ (i9 : Nat) (x9 : Shr), rs[i9]? = some x9 → x9.told.length ≤ j ∧ x9.holds.length ≤ j := fun i9 x9 h9 => by have h8 := hPI.at (i := i9) (p := x9.sh) (by show (rs.map Shr.sh)[i9]? = _; rw [List.getElem?_map, h9]; rfl); exact ⟨h8.2.1, h8.2.2.1⟩
  refine enter 32 Tryd.func28 rfl rfl rfl ?_
  refine g_weak [(0, .pointer (some ⟨h, 0, none⟩)), (1, .int .i64 k)] ⟨rfl, rfl, trivial⟩ ?_
  refine g_seq ?_
  refine g_region ?_
  refine l_of (s_val (v := .int .i64 0) (wt0 rfl) rfl rfl (x_assign rfl rfl) ?_)
  refine l_of (s_val (v := .int .i64 0) (wt0 rfl) rfl rfl (x_assign rfl rfl) ?_)
  refine g_nil ?_
  refine g_then ?_
  refine g_seq ?_
  refine g_seq ?_
  refine g_region ?_
  refine l_of (s_val (v := .pointer (some ⟨h, 0, none⟩)) (wt0 rfl) rfl rfl (x_move rfl rfl) ?_)
  refine l_of (s_val (v := .pointer (some ⟨h, 0, none⟩)) (wt0 rfl) rfl rfl (x_nilCheck rfl rfl) ?_)
  refine l_of (s_val (v := .pointer (some ⟨h, 2, none⟩)) (wt0 rfl) rfl rfl (x_fieldAddr rfl rfl fo52_2 rfl) ?_)
  refine l_of (s_val (v := .slice pp rs.length kc) (wt0 rfl) rfl rfl (x_load1 H0 0 rfl rfl Tryd.underlying50 rfl rfl rfl) ?_)
  refine l_of (s_val (v := .int .i64 ((rs.length : Int))) (wt0 rfl) rfl rfl (x_lenl rfl rfl Tryd.underlying50) ?_)
  refine l_of (s_val (v := .int .i64 0) (wt0 rfl) rfl rfl (x_move rfl rfl) ?_)
  refine g_nil ?_
  refine g_then ?_
  refine g_block ?_
  refine g_loop (ι := Nat × Int × Int) (fun (i, a, b) => [(1, .int .i64 k), (4, .int .i64 a), (5, .int .i64 b), (11, .slice pp rs.length kc), (12, .int .i64 ((rs.length : Int))), (13, .int .i64 ((i : Int)))]) (fun (i, a, b) wx => (i ≤ rs.length) ∧ (a = (tcN ((rs.take i).map Shr.sh) k : Int)) ∧ (b = (hcN ((rs.take i).map Shr.sh) k : Int)) ∧ (0 ≤ a ∧ a ≤ i ∧ 0 ≤ b ∧ b ≤ i) ∧ S wx [Ob h (.cells #[.string seed, .int .i64 ((n : Int)), .slice pp rs.length kc] 52 (0, 0)), Rw 61 3 pp rs.length kc (fl shwL rs), (Lst RoI rs), Old w (fps [Ob h (.cells #[.string seed, .int .i64 ((n : Int)), .slice pp rs.length kc] 52 (0, 0)), Rw 61 3 pp rs.length kc (fl shwL rs), (Lst RoI rs)])]) (fun (i, a, b) => rs.length - i) (0, 0, 0) ⟨rfl, rfl, rfl, rfl, rfl, rfl, trivial⟩ ⟨Nat.zero_le _, rfl, rfl, ⟨by omega, by omega, by omega, by omega⟩, (H0.takes [0, 1, 2, 3] (by decide))⟩ ?_
  rintro ⟨i, a, b⟩ wq1 ⟨hi, ha, hb, hab, H2⟩
  replace H2 : S wq1 [Ob h (.cells #[.string seed, .int .i64 ((n : Int)), .slice pp rs.length kc] 52 (0, 0)), Rw 61 3 pp rs.length kc (fl shwL rs), (Lst RoI rs), Old w (fps [Ob h (.cells #[.string seed, .int .i64 ((n : Int)), .slice pp rs.length kc] 52 (0, 0)), Rw 61 3 pp rs.length kc (fl shwL rs), (Lst RoI rs)])] := H2
  refine g_weak [(1, .int .i64 k), (4, .int .i64 a), (5, .int .i64 b), (11, .slice pp rs.length kc), (12, .int .i64 ((rs.length : Int))), (13, .int .i64 ((i : Int)))] ⟨rfl, rfl, rfl, rfl, rfl, rfl, trivial⟩ ?_
  refine g_seq ?_
  refine g_region ?_
  refine l_of (s_val (v := .bool (decide (((i : Int) : Int) < (rs.length : Int)))) (wt0 rfl) rfl rfl (x_bin rfl rfl rfl b_lss) ?_)
  refine g_nil ?_
  refine g_then ?_
  refine g_seq ?_
  by_cases hb3 : ((i : Int) : Int) < (rs.length : Int)
  · skip
    refine g_cond_t rfl (decide_eq_true hb3) ?_
    refine g_skip ?_
    refine g_then ?_
    refine g_seq ?_
    refine g_block ?_
    refine g_seq ?_
    refine g_region ?_
    refine l_of (s_val (v := .pointer ((pp).map fun q => q.add (i * 3))) (wt0 rfl) rfl rfl (x_idxR i (H2.rwReads (k := 1) rfl) rfl rfl rfl Tryd.underlying50 sz61 (by omega)) ?_)
    have hlq := (H2.rwReads (k := 1) rfl).lenL shwE
    obtain ⟨x4, hx4⟩ := ex_at (l := rs) (j := i) (by omega)
    clear hlq
    have hlx4 := hrok i x4 hx4
    refine l_of (s_val (v := .agg #[.int .i64 (x4.id), .slice x4.tp x4.told.length x4.tc, .slice x4.hp x4.holds.length x4.hc]) (wt0 rfl) rfl rfl (x_loadRA (vs := shwL x4) i (H2.rwReads (k := 1) rfl) (by omega) rfl rfl Tryd.underlying61 rfl sz61 (by rfl) (shwE.flAt hx4)) ?_)
    refine l_of (s_alloc H2 (wt0 rfl) rfl rfl rfl ze61 ?_)
    intro g5 wq6 H7
    refine l_of (s_store H7 0 (wt0 rfl) rfl rfl rfl rfl rfl sz61 rfl rfl (cs' := #[.int .i64 (x4.id), .slice x4.tp x4.told.length x4.tc, .slice x4.hp x4.holds.length x4.hc]) rfl ?_)
    intro wq8 H9
    refine g_nil ?_
    refine g_then ?_
    refine g_seq ?_
    refine g_seq ?_
    refine g_region ?_
    refine l_of (s_val (v := .pointer (some ⟨g5, 1, none⟩)) (wt0 rfl) rfl rfl (x_fieldAddr rfl rfl fo61_1 rfl) ?_)
    refine l_of (s_val (v := .slice x4.tp x4.told.length x4.tc) (wt0 rfl) rfl rfl (x_load1 H9 0 rfl rfl Tryd.underlying35 rfl rfl rfl) ?_)
    refine l_of (s_val (v := .int .i64 k) (wt0 rfl) rfl rfl (x_move rfl rfl) ?_)
    refine l_of (s_call (wt0 rfl) (x_call' rfl rfl cl27) (in_r x4.told x4.tp x4.told.length x4.tc k (by omega) _ (H9.rdT (k := 3) rfl hx4)) ?_)
    rintro _ wq10 ⟨rfl, H11⟩
    replace H11 : S wq10 [Ob g5 (.cells #[.int .i64 (x4.id), .slice x4.tp x4.told.length x4.tc, .slice x4.hp x4.holds.length x4.hc] 61 (0, 0)), Ob h (.cells #[.string seed, .int .i64 ((n : Int)), .slice pp rs.length kc] 52 (0, 0)), Rw 61 3 pp rs.length kc (fl shwL rs), (Lst RoI rs), Old w (fps [Ob h (.cells #[.string seed, .int .i64 ((n : Int)), .slice pp rs.length kc] 52 (0, 0)), Rw 61 3 pp rs.length kc (fl shwL rs), (Lst RoI rs)])] := H9.absorb (new := []) H11
    refine b_ret rfl rfl ?_
    refine g_nil ?_
    refine g_then ?_
    rcases Bool.eq_false_or_eq_true ((decide (k ∈ x4.told))) with hb12 | hb12
    · skip
      refine g_cond_t rfl hb12 ?_
      refine g_region ?_
      refine l_of (s_val (v := .int .i64 a) (wt0 rfl) rfl rfl (x_move rfl rfl) ?_)
      refine l_of (s_val (v := .int .i64 (a + 1)) (wt0 rfl) rfl rfl (x_bin rfl rfl rfl (b_add (w64 (by omega)))) ?_)
      refine l_of (s_val (v := .int .i64 (a + 1)) (wt0 rfl) rfl rfl (x_assign rfl rfl) ?_)
      refine g_nil ?_
      refine g_then ?_
      refine g_seq ?_
      refine g_region ?_
      refine l_of (s_val (v := .pointer (some ⟨g5, 2, none⟩)) (wt0 rfl) rfl rfl (x_fieldAddr rfl rfl fo61_2 rfl) ?_)
      refine l_of (s_val (v := .slice x4.hp x4.holds.length x4.hc) (wt0 rfl) rfl rfl (x_load1 H11 0 rfl rfl Tryd.underlying35 rfl rfl rfl) ?_)
      refine l_of (s_val (v := .int .i64 k) (wt0 rfl) rfl rfl (x_move rfl rfl) ?_)
      refine l_of (s_call (wt0 rfl) (x_call' rfl rfl cl27) (in_r x4.holds x4.hp x4.holds.length x4.hc k (by omega) _ (H11.rdH (k := 3) rfl hx4)) ?_)
      rintro _ wq13 ⟨rfl, H14⟩
      replace H14 : S wq13 [Ob g5 (.cells #[.int .i64 (x4.id), .slice x4.tp x4.told.length x4.tc, .slice x4.hp x4.holds.length x4.hc] 61 (0, 0)), Ob h (.cells #[.string seed, .int .i64 ((n : Int)), .slice pp rs.length kc] 52 (0, 0)), Rw 61 3 pp rs.length kc (fl shwL rs), (Lst RoI rs), Old w (fps [Ob h (.cells #[.string seed, .int .i64 ((n : Int)), .slice pp rs.length kc] 52 (0, 0)), Rw 61 3 pp rs.length kc (fl shwL rs), (Lst RoI rs)])] := H11.absorb (new := []) H14
      refine b_ret rfl rfl ?_
      refine g_nil ?_
      refine g_then ?_
      refine g_weak [(1, .int .i64 k), (4, .int .i64 (a + 1)), (5, .int .i64 b), (11, .slice pp rs.length kc), (12, .int .i64 ((rs.length : Int))), (13, .int .i64 ((i : Int))), (26, .bool ((decide (k ∈ x4.holds))))] ⟨rfl, rfl, rfl, rfl, rfl, rfl, rfl, trivial⟩ ?_
      rcases Bool.eq_false_or_eq_true ((decide (k ∈ x4.holds))) with hb15 | hb15
      · skip
        refine g_cond_t rfl hb15 ?_
        refine g_region ?_
        refine l_of (s_val (v := .int .i64 b) (wt0 rfl) rfl rfl (x_move rfl rfl) ?_)
        refine l_of (s_val (v := .int .i64 (b + 1)) (wt0 rfl) rfl rfl (x_bin rfl rfl rfl (b_add (w64 (by omega)))) ?_)
        refine l_of (s_val (v := .int .i64 (b + 1)) (wt0 rfl) rfl rfl (x_assign rfl rfl) ?_)
        refine g_nil ?_
        refine g_in ?_
        refine g_then ?_
        refine g_region ?_
        refine l_of (s_val (v := .int .i64 (((i + 1 : Nat) : Int))) (wt0 rfl) rfl rfl (x_bin rfl rfl rfl (b_add (by rw [w64 (by omega)]; omega))) ?_)
        refine l_of (s_val (v := .int .i64 (((i + 1 : Nat) : Int))) (wt0 rfl) rfl rfl (x_move rfl rfl) ?_)
        refine g_nil ?_
        refine g_then ?_
        refine g_round (i := (i, a, b)) ((i + 1), a + 1, b + 1) ?_ ?_ ?_
        · exact ⟨rfl, rfl, rfl, rfl, rfl, rfl, trivial⟩
        · exact ⟨by omega, (by rw [take_snocL hx4, tcN_snoc, ← ha, if_pos (of_decide_eq_true hb12)]; try omega), (by rw [take_snocL hx4, hcN_snoc, ← hb, if_pos (of_decide_eq_true hb15)]; try omega), (by omega), (H14.takes [1, 2, 3, 4] (by decide))⟩
        · (try dsimp only); omega
      · skip
        refine g_cond_f rfl hb15 ?_
        refine g_skip ?_
        refine g_in ?_
        refine g_then ?_
        refine g_region ?_
        refine l_of (s_val (v := .int .i64 (((i + 1 : Nat) : Int))) (wt0 rfl) rfl rfl (x_bin rfl rfl rfl (b_add (by rw [w64 (by omega)]; omega))) ?_)
        refine l_of (s_val (v := .int .i64 (((i + 1 : Nat) : Int))) (wt0 rfl) rfl rfl (x_move rfl rfl) ?_)
        refine g_nil ?_
        refine g_then ?_
        refine g_round (i := (i, a, b)) ((i + 1), a + 1, b) ?_ ?_ ?_
        · exact ⟨rfl, rfl, rfl, rfl, rfl, rfl, trivial⟩
        · exact ⟨by omega, (by rw [take_snocL hx4, tcN_snoc, ← ha, if_pos (of_decide_eq_true hb12)]; try omega), (by rw [take_snocL hx4, hcN_snoc, ← hb, if_neg (of_decide_eq_false hb15)]; try omega), (by omega), (H14.takes [1, 2, 3, 4] (by decide))⟩
        · (try dsimp only); omega
    · skip
      refine g_cond_f rfl hb12 ?_
      refine g_skip ?_
      refine g_then ?_
      refine g_seq ?_
      refine g_region ?_
      refine l_of (s_val (v := .pointer (some ⟨g5, 2, none⟩)) (wt0 rfl) rfl rfl (x_fieldAddr rfl rfl fo61_2 rfl) ?_)
      refine l_of (s_val (v := .slice x4.hp x4.holds.length x4.hc) (wt0 rfl) rfl rfl (x_load1 H11 0 rfl rfl Tryd.underlying35 rfl rfl rfl) ?_)
      refine l_of (s_val (v := .int .i64 k) (wt0 rfl) rfl rfl (x_move rfl rfl) ?_)
      refine l_of (s_call (wt0 rfl) (x_call' rfl rfl cl27) (in_r x4.holds x4.hp x4.holds.length x4.hc k (by omega) _ (H11.rdH (k := 3) rfl hx4)) ?_)
      rintro _ wq16 ⟨rfl, H17⟩
      replace H17 : S wq16 [Ob g5 (.cells #[.int .i64 (x4.id), .slice x4.tp x4.told.length x4.tc, .slice x4.hp x4.holds.length x4.hc] 61 (0, 0)), Ob h (.cells #[.string seed, .int .i64 ((n : Int)), .slice pp rs.length kc] 52 (0, 0)), Rw 61 3 pp rs.length kc (fl shwL rs), (Lst RoI rs), Old w (fps [Ob h (.cells #[.string seed, .int .i64 ((n : Int)), .slice pp rs.length kc] 52 (0, 0)), Rw 61 3 pp rs.length kc (fl shwL rs), (Lst RoI rs)])] := H11.absorb (new := []) H17
      refine b_ret rfl rfl ?_
      refine g_nil ?_
      refine g_then ?_
      rcases Bool.eq_false_or_eq_true ((decide (k ∈ x4.holds))) with hb18 | hb18
      · skip
        refine g_cond_t rfl hb18 ?_
        refine g_region ?_
        refine l_of (s_val (v := .int .i64 b) (wt0 rfl) rfl rfl (x_move rfl rfl) ?_)
        refine l_of (s_val (v := .int .i64 (b + 1)) (wt0 rfl) rfl rfl (x_bin rfl rfl rfl (b_add (w64 (by omega)))) ?_)
        refine l_of (s_val (v := .int .i64 (b + 1)) (wt0 rfl) rfl rfl (x_assign rfl rfl) ?_)
        refine g_nil ?_
        refine g_in ?_
        refine g_then ?_
        refine g_weak [(1, .int .i64 k), (4, .int .i64 a), (5, .int .i64 (b + 1)), (11, .slice pp rs.length kc), (12, .int .i64 ((rs.length : Int))), (13, .int .i64 ((i : Int)))] ⟨rfl, rfl, rfl, rfl, rfl, rfl, trivial⟩ ?_
        refine g_region ?_
        refine l_of (s_val (v := .int .i64 (((i + 1 : Nat) : Int))) (wt0 rfl) rfl rfl (x_bin rfl rfl rfl (b_add (by rw [w64 (by omega)]; omega))) ?_)
        refine l_of (s_val (v := .int .i64 (((i + 1 : Nat) : Int))) (wt0 rfl) rfl rfl (x_move rfl rfl) ?_)
        refine g_nil ?_
        refine g_then ?_
        refine g_round (i := (i, a, b)) ((i + 1), a, b + 1) ?_ ?_ ?_
        · exact ⟨rfl, rfl, rfl, rfl, rfl, rfl, trivial⟩
        · exact ⟨by omega, (by rw [take_snocL hx4, tcN_snoc, ← ha, if_neg (of_decide_eq_false hb12)]; try omega), (by rw [take_snocL hx4, hcN_snoc, ← hb, if_pos (of_decide_eq_true hb18)]; try omega), (by omega), (H17.takes [1, 2, 3, 4] (by decide))⟩
        · (try dsimp only); omega
      · skip
        refine g_cond_f rfl hb18 ?_
        refine g_skip ?_
        refine g_in ?_
        refine g_then ?_
        refine g_weak [(1, .int .i64 k), (4, .int .i64 a), (5, .int .i64 b), (11, .slice pp rs.length kc), (12, .int .i64 ((rs.length : Int))), (13, .int .i64 ((i : Int)))] ⟨rfl, rfl, rfl, rfl, rfl, rfl, trivial⟩ ?_
        refine g_region ?_
        refine l_of (s_val (v := .int .i64 (((i + 1 : Nat) : Int))) (wt0 rfl) rfl rfl (x_bin rfl rfl rfl (b_add (by rw [w64 (by omega)]; omega))) ?_)
        refine l_of (s_val (v := .int .i64 (((i + 1 : Nat) : Int))) (wt0 rfl) rfl rfl (x_move rfl rfl) ?_)
        refine g_nil ?_
        refine g_then ?_
        refine g_round (i := (i, a, b)) ((i + 1), a, b) ?_ ?_ ?_
        · exact ⟨rfl, rfl, rfl, rfl, rfl, rfl, trivial⟩
        · exact ⟨by omega, (by rw [take_snocL hx4, tcN_snoc, ← ha, if_neg (of_decide_eq_false hb12)]; try omega), (by rw [take_snocL hx4, hcN_snoc, ← hb, if_neg (of_decide_eq_false hb18)]; try omega), (by omega), (H17.takes [1, 2, 3, 4] (by decide))⟩
        · (try dsimp only); omega
  · skip
    refine g_cond_f rfl (decide_eq_false hb3) ?_
    refine g_exit ?_
    refine g_then_exit ?_
    refine g_then_exit ?_
    refine g_in_hit ?_
    refine g_then ?_
    refine g_seq ?_
    refine g_region ?_
    refine l_of (s_val (v := .int .i64 a) (wt0 rfl) rfl rfl (x_move rfl rfl) ?_)
    refine l_of (s_val (v := .int .i64 b) (wt0 rfl) rfl rfl (x_move rfl rfl) ?_)
    refine l_of (s_val (v := .int .i64 a) (wt0 rfl) rfl rfl (x_assign rfl rfl) ?_)
    refine l_of (s_val (v := .int .i64 b) (wt0 rfl) rfl rfl (x_assign rfl rfl) ?_)
    refine g_nil ?_
    refine g_then ?_
    refine g_ret ?_
    refine fin_ret [.tmp 4, .tmp 5] [.int .i64 a, .int .i64 b] rfl ⟨rfl, rfl, trivial⟩ ?_
    rw [List.take_of_length_le (by omega)] at ha hb
    exact ⟨by rw [ha, hb]; rfl, H2.takes [0, 1, 2, 3] (by decide)⟩
set_option maxRecDepth 20000 in
set_option maxHeartbeats 4000000 in
set_option maxRecDepth 20000 in
set_option maxHeartbeats 4000000 in
theorem rankr_s (h : Nat) (pp : Option Addr) (kc : Nat) (seed : ByteArray) (n : Nat) (rs : List Shr) (hsd : seed.size ≤ 100) (x : Int) (hx : 0 ≤ x ∧ x ≤ 1000) (w9 : World) (ht : PowTab w9)  (w : World) (HS : S w [Ob h (.cells #[.string seed, .int .i64 ((n : Int)), .slice pp rs.length kc] 52 (0, 0)), Old w9 no]) : Calls Tryd.prog 37 #[.pointer (some ⟨h, 0, none⟩), .int .i64 x] w fun e w' => e = .returned (.string (rankS seed x)) ∧ S w' ([Ob h (.cells #[.string seed, .int .i64 ((n : Int)), .slice pp rs.length kc] 52 (0, 0)), Old w9 no] ++ [Old w (fps [Ob h (.cells #[.string seed, .int .i64 ((n : Int)), .slice pp rs.length kc] 52 (0, 0)), Old w9 no])]) := by
  have H00 := HS.beginI
  have H0 : S w ([Ob h (.cells #[.string seed, .int .i64 ((n : Int)), .slice pp rs.length kc] 52 (0, 0)), Old w9 no, Old w (fps [Ob h (.cells #[.string seed, .int .i64 ((n : Int)), .slice pp rs.length kc] 52 (0, 0)), Old w9 no])]) := H00
  have hz1 : (⟨#[58]⟩ : ByteArray).size = 1 := rfl
  refine enter 14 Tryd.func37 rfl rfl rfl ?_
  refine g_weak [(0, .pointer (some ⟨h, 0, none⟩)), (1, .int .i64 x)] ⟨rfl, rfl, trivial⟩ ?_
  refine g_seq ?_
  refine g_region ?_
  refine l_of (s_val (v := .string (⟨#[]⟩)) (wt0 rfl) rfl rfl (x_assign rfl rfl) ?_)
  refine g_nil ?_
  refine g_then ?_
  refine g_seq ?_
  refine g_anyY [] (fun wx => S wx [Ob h (.cells #[.string seed, .int .i64 ((n : Int)), .slice pp rs.length kc] 52 (0, 0))]) (fun wx => S wx [Ob h (.cells #[.string seed, .int .i64 ((n : Int)), .slice pp rs.length kc] 52 (0, 0))]) [] (by kernel_rfl) H0 (fun wq1 H2 => ?_)
  refine y_pure (v := .pointer (some ⟨h, 0, none⟩)) 0 rfl (wt0 rfl) rfl rfl rfl (by kernel_rfl) (by kernel_rfl) (by kernel_rfl) (by kernel_rfl) (fun wx => x_move rfl rfl) ?_
  refine y_pure (v := .pointer (some ⟨h, 0, none⟩)) 1 rfl (wt0 rfl) rfl rfl rfl (by kernel_rfl) (by kernel_rfl) (by kernel_rfl) (by kernel_rfl) (fun wx => x_nilCheck rfl rfl) ?_
  refine y_pure (v := .pointer (some ⟨h, 0, none⟩)) 2 rfl (wt0 rfl) rfl rfl rfl (by kernel_rfl) (by kernel_rfl) (by kernel_rfl) (by kernel_rfl) (fun wx => x_fieldAddr rfl rfl fo52_0 rfl) ?_
  refine y_take (v := .string seed) 3 rfl (wt0 rfl) rfl rfl rfl (by kernel_rfl) (by kernel_rfl) (by kernel_rfl) (by kernel_rfl) (by kernel_rfl) (H2.mask [true, false, false]) (fun wx H => x_load1 H 0 rfl rfl Tryd.underlying9 rfl rfl rfl) ?_
  have hsz3 : (seed ++ (⟨#[58]⟩ : ByteArray)).size = seed.size + (⟨#[58]⟩ : ByteArray).size := ByteArray.size_append
  refine y_pure (v := .string (seed ++ (⟨#[58]⟩ : ByteArray))) 4 rfl (wt0 rfl) rfl rfl rfl (by kernel_rfl) (by kernel_rfl) (by kernel_rfl) (by kernel_rfl) (fun wx => x_bin rfl rfl rfl (b_cat (by omega))) ?_
  refine y_pure (v := .int .i64 x) 5 rfl (wt0 rfl) rfl rfl rfl (by kernel_rfl) (by kernel_rfl) (by kernel_rfl) (by kernel_rfl) (fun wx => x_move rfl rfl) ?_
  refine y_one (i := 6) (by kernel_rfl) rfl ?_
  refine s_call (wt0 rfl) (x_call' rfl rfl cl32) (itoa_s x (by omega) (by omega) _ (H2.tab (k := 1) rfl ht)) ?_
  rintro _ wq5 ⟨rfl, H6⟩
  replace H6 : S wq5 [Ob h (.cells #[.string seed, .int .i64 ((n : Int)), .slice pp rs.length kc] 52 (0, 0)), Old w9 no, Old w (fps [Ob h (.cells #[.string seed, .int .i64 ((n : Int)), .slice pp rs.length kc] 52 (0, 0)), Old w9 no])] := H2.absorb (new := []) H6
  have hit4 := itS_size (n := x) (by omega) (by omega)
  refine b_ret rfl rfl ?_
  refine y_k (H6.mask [true, false, false]) (H6.mask [true, false, false]) ?_
  have hsz7 : ((seed ++ (⟨#[58]⟩ : ByteArray)) ++ (itS x)).size = (seed ++ (⟨#[58]⟩ : ByteArray)).size + (itS x).size := ByteArray.size_append
  refine y_pure (v := .string ((seed ++ (⟨#[58]⟩ : ByteArray)) ++ (itS x))) 7 rfl (wt0 rfl) rfl rfl rfl (by kernel_rfl) (by kernel_rfl) (by kernel_rfl) (by kernel_rfl) (fun wx => x_bin rfl rfl rfl (b_cat (by omega))) ?_
  refine y_one (i := 8) (by kernel_rfl) rfl ?_
  refine s_call (wt0 rfl) (x_call' rfl rfl cl44) (old_r ((seed ++ (⟨#[58]⟩ : ByteArray)) ++ (itS x)) (by omega) _) ?_
  rintro _ wq8 ⟨rfl, H9⟩
  replace H9 : S wq8 [Ob h (.cells #[.string seed, .int .i64 ((n : Int)), .slice pp rs.length kc] 52 (0, 0)), Old w9 no, Old w (fps [Ob h (.cells #[.string seed, .int .i64 ((n : Int)), .slice pp rs.length kc] 52 (0, 0)), Old w9 no])] := H6.absorb (new := []) H9
  refine b_ret rfl rfl ?_
  refine y_k (H9.mask [true, false, false]) (H9.mask [true, false, false]) ?_
  refine y_pure (v := .string ((oldS ((seed ++ (⟨#[58]⟩ : ByteArray)) ++ (itS x))))) 9 rfl (wt0 rfl) rfl rfl rfl (by kernel_rfl) (by kernel_rfl) (by kernel_rfl) (by kernel_rfl) (fun wx => x_assign rfl rfl) ?_
  refine y_done (by kernel_rfl) ?_
  refine g_then ?_
  refine g_ret ?_
  refine fin_ret [.tmp 4] [.string ((oldS ((seed ++ (⟨#[58]⟩ : ByteArray)) ++ (itS x))))] rfl ⟨rfl, trivial⟩ ?_
  exact ⟨rfl, H9.takes [0, 1, 2] (by decide)⟩
set_option maxRecDepth 20000 in
set_option maxHeartbeats 4000000 in
set_option maxRecDepth 20000 in
set_option maxHeartbeats 4000000 in
theorem toldr_s (j h : Nat) (pp : Option Addr) (kc : Nat) (seed : ByteArray) (n : Nat) (rs : List Shr) (hZ : PI j (⟨seed, n, rs.map Shr.sh⟩ : SP)) (hj : j ≤ 1000) (id : Int)  (w : World) (HS : S w [(RM.I ⟨h, pp, kc, seed, n, rs⟩)]) : Calls Tryd.prog 13 #[.pointer (some ⟨h, 0, none⟩), .int .i64 id] w fun e w' => ∃ p' c', e = .returned (.tuple #[.slice p' (toldV (⟨seed, n, rs.map Shr.sh⟩ : SP) id).length c', .int .i64 (findE (⟨seed, n, rs.map Shr.sh⟩ : SP) id)]) ∧ (∀ w9, S w9 [(RM.I ⟨h, pp, kc, seed, n, rs⟩)] → Reads w9 p' (toldV (⟨seed, n, rs.map Shr.sh⟩ : SP) id).length c' 1 (fl intL (toldV (⟨seed, n, rs.map Shr.sh⟩ : SP) id))) ∧ S w' ([(RM.I ⟨h, pp, kc, seed, n, rs⟩)] ++ [Old w (fps [(RM.I ⟨h, pp, kc, seed, n, rs⟩)])]) := by
  have H00 := HS.beginI
  have H0 : S w ([(RM.I ⟨h, pp, kc, seed, n, rs⟩), Old w (fps [(RM.I ⟨h, pp, kc, seed, n, rs⟩)])]) := H00
  have hPI : PI j (⟨seed, n, rs.map Shr.sh⟩ : SP) := hZ
  have hps : rs.length ≤ j := by have := hPI.len; simpa using this
  have hn30 : n ≤ 30 := hPI.n30
  have hrok : ∀ (i9 : Nat) (x9 : Shr), rs[i9]? = some x9 → x9.told.length ≤ j ∧ x9.holds.length ≤ j := fun i9 x9 h9 => by have h8 := hPI.at (i := i9) (p := x9.sh) (by show (rs.map Shr.sh)[i9]? = _; rw [List.getElem?_map, h9]; rfl); exact ⟨h8.2.1, h8.2.2.1⟩
  replace H0 : S w [Ob h (.cells #[.string seed, .int .i64 ((n : Int)), .slice pp rs.length kc] 52 (0, 0)), Rw 61 3 pp rs.length kc (fl shwL rs), (Lst RoI rs), Old w (fps [(RM.I ⟨h, pp, kc, seed, n, rs⟩)])] := S.unbig H0
  refine enter 27 Tryd.func13 rfl rfl rfl ?_
  refine g_weak [(0, .pointer (some ⟨h, 0, none⟩)), (1, .int .i64 id)] ⟨rfl, rfl, trivial⟩ ?_
  refine g_seq ?_
  refine g_region ?_
  refine l_of (s_val (v := .slice none 0 0) (wt0 rfl) rfl rfl (x_assign rfl rfl) ?_)
  refine l_of (s_val (v := .int .i64 0) (wt0 rfl) rfl rfl (x_assign rfl rfl) ?_)
  refine g_nil ?_
  refine g_then ?_
  refine g_seq ?_
  refine g_seq ?_
  refine g_region ?_
  refine l_of (s_val (v := .pointer (some ⟨h, 0, none⟩)) (wt0 rfl) rfl rfl (x_move rfl rfl) ?_)
  refine l_of (s_val (v := .int .i64 id) (wt0 rfl) rfl rfl (x_move rfl rfl) ?_)
  refine l_of (s_call (wt0 rfl) (x_call' rfl rfl cl25) (askedr_s h id _) ?_)
  rintro _ wq1 ⟨rfl, H2⟩
  replace H2 : S wq1 [Ob h (.cells #[.string seed, .int .i64 ((n : Int)), .slice pp rs.length kc] 52 (0, 0)), Rw 61 3 pp rs.length kc (fl shwL rs), (Lst RoI rs), Old w (fps [(RM.I ⟨h, pp, kc, seed, n, rs⟩)])] := H0.absorb (new := []) H2
  refine b_ret rfl rfl ?_
  refine l_of (s_val (v := .int .i64 ((ask7 id))) (wt0 rfl) rfl rfl (x_assign rfl rfl) ?_)
  refine g_nil ?_
  refine g_then ?_
  refine g_seq ?_
  refine g_region ?_
  refine l_of (s_val (v := .int .i64 ((ask7 id))) (wt0 rfl) rfl rfl (x_move rfl rfl) ?_)
  refine l_of (s_val (v := .bool (!decide (((ask7 id) : Int) = 0))) (wt0 rfl) rfl rfl (x_bin rfl rfl rfl b_neq) ?_)
  refine g_nil ?_
  refine g_then ?_
  by_cases hb3 : ((ask7 id) : Int) = 0
  · skip
    refine g_cond_f rfl (nf hb3) ?_
    refine g_skip ?_
    refine g_then ?_
    refine g_seq ?_
    refine g_region ?_
    refine l_of (s_val (v := .pointer (some ⟨h, 0, none⟩)) (wt0 rfl) rfl rfl (x_move rfl rfl) ?_)
    refine l_of (s_val (v := .int .i64 id) (wt0 rfl) rfl rfl (x_move rfl rfl) ?_)
    refine l_of (s_call (wt0 rfl) (x_call' rfl rfl cl26) (findr_s j h pp kc seed n rs hZ hj id _ (H2.takes [0, 1, 2] (by decide))) ?_)
    rintro ee6 wq4 hor7
    rcases hor7 with ⟨i, x, hx, hxi, hf, rfl, H5⟩ | ⟨hf, rfl, H5⟩
    · skip
      replace H5 : S wq4 [Ob h (.cells #[.string seed, .int .i64 ((n : Int)), .slice pp rs.length kc] 52 (0, 0)), Rw 61 3 pp rs.length kc (fl shwL rs), (Lst RoI rs), Old w (fps [(RM.I ⟨h, pp, kc, seed, n, rs⟩)])] := H2.absorbI (new := [Ob h (.cells #[.string seed, .int .i64 ((n : Int)), .slice pp rs.length kc] 52 (0, 0)), Rw 61 3 pp rs.length kc (fl shwL rs), (Lst RoI rs)]) [0, 1, 2] H5
      have hlx := hrok i x hx
      have hil := (List.getElem?_eq_some_iff.1 hx).1
      have hqx : (rs.map Shr.sh)[i]? = some x.sh := by rw [List.getElem?_map, hx]; rfl
      have hg9 : getP (⟨seed, n, rs.map Shr.sh⟩ : SP) i = x.sh := getP_at hqx
      have hpk := hPI.at (p := x.sh) hqx
      refine b_ret rfl rfl ?_
      refine l_of (s_val (v := .int .i64 ((i : Int))) (wt0 rfl) rfl rfl (x_assign rfl rfl) ?_)
      refine g_nil ?_
      refine g_then ?_
      refine g_weak [(0, .pointer (some ⟨h, 0, none⟩)), (7, .int .i64 ((i : Int)))] ⟨rfl, rfl, trivial⟩ ?_
      refine g_seq ?_
      refine g_seq ?_
      refine g_region ?_
      refine l_of (s_val (v := .int .i64 ((i : Int))) (wt0 rfl) rfl rfl (x_move rfl rfl) ?_)
      refine l_of (s_val (v := .bool (decide (((i : Int) : Int) < 0))) (wt0 rfl) rfl rfl (x_bin rfl rfl rfl b_lss) ?_)
      refine g_nil ?_
      refine g_then ?_
      by_cases hb8 : ((i : Int) : Int) < 0
      · skip
        refine g_cond_t rfl (decide_eq_true hb8) ?_
        refine g_seq ?_
        refine g_region ?_
        refine l_of (s_val (v := .slice none 0 0) (wt0 rfl) rfl rfl (x_assign rfl rfl) ?_)
        refine l_of (s_val (v := .int .i64 8) (wt0 rfl) rfl rfl (x_assign rfl rfl) ?_)
        refine g_nil ?_
        refine g_then ?_
        refine g_ret ?_
        refine g_then_ret ?_
        refine fin_ret [.tmp 4, .tmp 5] [.slice none 0 0, .int .i64 8] rfl ⟨rfl, rfl, trivial⟩ ?_
        omega
      · skip
        refine g_cond_f rfl (decide_eq_false hb8) ?_
        refine g_skip ?_
        refine g_then ?_
        refine g_seq ?_
        refine g_region ?_
        refine l_of (s_val (v := .pointer (some ⟨h, 0, none⟩)) (wt0 rfl) rfl rfl (x_move rfl rfl) ?_)
        refine l_of (s_val (v := .pointer (some ⟨h, 0, none⟩)) (wt0 rfl) rfl rfl (x_nilCheck rfl rfl) ?_)
        refine l_of (s_val (v := .pointer (some ⟨h, 2, none⟩)) (wt0 rfl) rfl rfl (x_fieldAddr rfl rfl fo52_2 rfl) ?_)
        refine l_of (s_val (v := .slice pp rs.length kc) (wt0 rfl) rfl rfl (x_load1 H5 0 rfl rfl Tryd.underlying50 rfl rfl rfl) ?_)
        refine l_of (s_val (v := .int .i64 ((i : Int))) (wt0 rfl) rfl rfl (x_move rfl rfl) ?_)
        refine l_of (s_val (v := .pointer ((pp).map fun q => q.add (i * 3))) (wt0 rfl) rfl rfl (x_idxR i (H5.rwReads (k := 1) rfl) rfl rfl rfl Tryd.underlying50 sz61 (by omega)) ?_)
        refine l_of (s_val (v := .pointer ((pp).map fun q => q.add (i * 3 + 1))) (wt0 rfl) rfl rfl (ex_cast (x_fieldAddrG (m := i * 3) ((H5.rwReads (k := 1) rfl).some (by omega)) rfl rfl fo61_1) rfl) ?_)
        refine l_of (s_val (v := .slice x.tp x.told.length x.tc) (wt0 rfl) rfl rfl (x_loadF1 (i := 1) (j := i) shwE (H5.rwReads (k := 1) rfl) hx rfl rfl Tryd.underlying35 rfl rfl) ?_)
        refine l_of (s_val (v := .slice x.tp x.told.length x.tc) (wt0 rfl) rfl rfl (x_assign rfl rfl) ?_)
        refine l_of (s_val (v := .int .i64 0) (wt0 rfl) rfl rfl (x_assign rfl rfl) ?_)
        refine g_nil ?_
        refine g_then ?_
        refine g_weak [(4, .slice x.tp x.told.length x.tc), (5, .int .i64 0)] ⟨rfl, rfl, trivial⟩ ?_
        refine g_ret ?_
        refine fin_ret [.tmp 4, .tmp 5] [.slice x.tp x.told.length x.tc, .int .i64 0] rfl ⟨rfl, rfl, trivial⟩ ?_
        have hv : (toldV (⟨seed, n, rs.map Shr.sh⟩ : SP) id) = x.told := by unfold toldV; rw [show fnd (SP.ps (⟨seed, n, rs.map Shr.sh⟩ : SP)) id = some i from hf]; show (getP (⟨seed, n, rs.map Shr.sh⟩ : SP) i).told = _; rw [hg9]; rfl
        have he : (findE (⟨seed, n, rs.map Shr.sh⟩ : SP) id) = 0 := by unfold findE; rw [show fnd (SP.ps (⟨seed, n, rs.map Shr.sh⟩ : SP)) id = some i from hf]
        rw [hv, he]
        exact ⟨_, _, rfl, fun w9 h9 => (S.unbig (L := [_, _, _]) (B := []) h9).rdT (k := 2) rfl hx, (S.big (L := [_, _, _]) (H5.takes [0, 1, 2, 3] (by decide)))⟩
    · skip
      replace H5 : S wq4 [Ob h (.cells #[.string seed, .int .i64 ((n : Int)), .slice pp rs.length kc] 52 (0, 0)), Rw 61 3 pp rs.length kc (fl shwL rs), (Lst RoI rs), Old w (fps [(RM.I ⟨h, pp, kc, seed, n, rs⟩)])] := H2.absorbI (new := [Ob h (.cells #[.string seed, .int .i64 ((n : Int)), .slice pp rs.length kc] 52 (0, 0)), Rw 61 3 pp rs.length kc (fl shwL rs), (Lst RoI rs)]) [0, 1, 2] H5
      refine b_ret rfl rfl ?_
      refine l_of (s_val (v := .int .i64 (-1)) (wt0 rfl) rfl rfl (x_assign rfl rfl) ?_)
      refine g_nil ?_
      refine g_then ?_
      refine g_weak [(0, .pointer (some ⟨h, 0, none⟩)), (7, .int .i64 (-1))] ⟨rfl, rfl, trivial⟩ ?_
      refine g_seq ?_
      refine g_seq ?_
      refine g_region ?_
      refine l_of (s_val (v := .int .i64 (-1)) (wt0 rfl) rfl rfl (x_move rfl rfl) ?_)
      refine l_of (s_val (v := .bool (decide ((-1 : Int) < 0))) (wt0 rfl) rfl rfl (x_bin rfl rfl rfl b_lss) ?_)
      refine g_nil ?_
      refine g_then ?_
      refine g_cond_t rfl (by decide) ?_
      refine g_seq ?_
      refine g_region ?_
      refine l_of (s_val (v := .slice none 0 0) (wt0 rfl) rfl rfl (x_assign rfl rfl) ?_)
      refine l_of (s_val (v := .int .i64 8) (wt0 rfl) rfl rfl (x_assign rfl rfl) ?_)
      refine g_nil ?_
      refine g_then ?_
      refine g_ret ?_
      refine g_then_ret ?_
      refine fin_ret [.tmp 4, .tmp 5] [.slice none 0 0, .int .i64 8] rfl ⟨rfl, rfl, trivial⟩ ?_
      have h7 : ¬ id < 0 := by unfold ask7 at *; split at * <;> omega
      have hv : (toldV (⟨seed, n, rs.map Shr.sh⟩ : SP) id) = [] := by unfold toldV; rw [show fnd (SP.ps (⟨seed, n, rs.map Shr.sh⟩ : SP)) id = none from hf]
      have he : (findE (⟨seed, n, rs.map Shr.sh⟩ : SP) id) = 8 := by unfold findE; rw [show fnd (SP.ps (⟨seed, n, rs.map Shr.sh⟩ : SP)) id = none from hf]; exact if_neg h7
      rw [hv, he]
      exact ⟨none, 0, rfl, fun _ _ => ⟨rfl, Nat.le_refl _, fun h => absurd h (Nat.lt_irrefl _)⟩, (S.big (L := [_, _, _]) (H5.takes [0, 1, 2, 3] (by decide)))⟩
  · skip
    refine g_cond_t rfl (nt hb3) ?_
    refine g_seq ?_
    refine g_region ?_
    refine l_of (s_val (v := .int .i64 ((ask7 id))) (wt0 rfl) rfl rfl (x_move rfl rfl) ?_)
    refine l_of (s_val (v := .slice none 0 0) (wt0 rfl) rfl rfl (x_assign rfl rfl) ?_)
    refine l_of (s_val (v := .int .i64 ((ask7 id))) (wt0 rfl) rfl rfl (x_assign rfl rfl) ?_)
    refine g_nil ?_
    refine g_then ?_
    refine g_ret ?_
    refine g_then_ret ?_
    refine fin_ret [.tmp 4, .tmp 5] [.slice none 0 0, .int .i64 ((ask7 id))] rfl ⟨rfl, rfl, trivial⟩ ?_
    have h7 : id < 0 := by unfold ask7 at *; split at * <;> omega
    have h8 : ask7 id = 7 := if_pos h7
    rw [h8]
    have hf : fnd (rs.map Shr.sh) id = none := by cases h9 : fnd (rs.map Shr.sh) id with | none => rfl | some i9 => have := hPI.neg (id := id) h9; omega
    have hv : (toldV (⟨seed, n, rs.map Shr.sh⟩ : SP) id) = [] := by unfold toldV; rw [show fnd (SP.ps (⟨seed, n, rs.map Shr.sh⟩ : SP)) id = none from hf]
    have he : (findE (⟨seed, n, rs.map Shr.sh⟩ : SP) id) = 7 := by unfold findE; rw [show fnd (SP.ps (⟨seed, n, rs.map Shr.sh⟩ : SP)) id = none from hf]; exact if_pos h7
    rw [hv, he]
    exact ⟨none, 0, rfl, fun _ _ => ⟨rfl, Nat.le_refl _, fun h => absurd h (Nat.lt_irrefl _)⟩, (S.big (L := [_, _, _]) (H2.takes [0, 1, 2, 3] (by decide)))⟩
set_option maxRecDepth 20000 in
set_option maxHeartbeats 4000000 in
set_option maxRecDepth 20000 in
set_option maxHeartbeats 4000000 in
theorem countr_s (j h : Nat) (pp : Option Addr) (kc : Nat) (seed : ByteArray) (n : Nat) (rs : List Shr) (hZ : PI j (⟨seed, n, rs.map Shr.sh⟩ : SP)) (hj : j ≤ 1000) (k : Int)  (w : World) (HS : S w [(RM.I ⟨h, pp, kc, seed, n, rs⟩)]) : Calls Tryd.prog 14 #[.pointer (some ⟨h, 0, none⟩), .int .i64 k] w fun e w' => e = .returned (.tuple #[.int .i64 (countT (⟨seed, n, rs.map Shr.sh⟩ : SP) k), .int .i64 (countH (⟨seed, n, rs.map Shr.sh⟩ : SP) k), .int .i64 (countE (⟨seed, n, rs.map Shr.sh⟩ : SP) k)]) ∧ S w' ([(RM.I ⟨h, pp, kc, seed, n, rs⟩)] ++ [Old w (fps [(RM.I ⟨h, pp, kc, seed, n, rs⟩)])]) := by
  have H00 := HS.beginI
  have H0 : S w ([(RM.I ⟨h, pp, kc, seed, n, rs⟩), Old w (fps [(RM.I ⟨h, pp, kc, seed, n, rs⟩)])]) := H00
  have hPI : PI j (⟨seed, n, rs.map Shr.sh⟩ : SP) := hZ
  have hps : rs.length ≤ j := by have := hPI.len; simpa using this
  have hn30 : n ≤ 30 := hPI.n30
  have hrok : ∀ (i9 : Nat) (x9 : Shr), rs[i9]? = some x9 → x9.told.length ≤ j ∧ x9.holds.length ≤ j := fun i9 x9 h9 => by have h8 := hPI.at (i := i9) (p := x9.sh) (by show (rs.map Shr.sh)[i9]? = _; rw [List.getElem?_map, h9]; rfl); exact ⟨h8.2.1, h8.2.2.1⟩
  replace H0 : S w [Ob h (.cells #[.string seed, .int .i64 ((n : Int)), .slice pp rs.length kc] 52 (0, 0)), Rw 61 3 pp rs.length kc (fl shwL rs), (Lst RoI rs), Old w (fps [(RM.I ⟨h, pp, kc, seed, n, rs⟩)])] := S.unbig H0
  refine enter 29 Tryd.func14 rfl rfl rfl ?_
  refine g_weak [(0, .pointer (some ⟨h, 0, none⟩)), (1, .int .i64 k)] ⟨rfl, rfl, trivial⟩ ?_
  refine g_seq ?_
  refine g_region ?_
  refine l_of (s_val (v := .int .i64 0) (wt0 rfl) rfl rfl (x_assign rfl rfl) ?_)
  refine l_of (s_val (v := .int .i64 0) (wt0 rfl) rfl rfl (x_assign rfl rfl) ?_)
  refine l_of (s_val (v := .int .i64 0) (wt0 rfl) rfl rfl (x_assign rfl rfl) ?_)
  refine g_nil ?_
  refine g_then ?_
  refine g_seq ?_
  refine g_block ?_
  refine g_seq ?_
  refine g_region ?_
  refine l_of (s_val (v := .pointer (some ⟨h, 0, none⟩)) (wt0 rfl) rfl rfl (x_move rfl rfl) ?_)
  refine l_of (s_val (v := .bool false) (wt0 rfl) rfl rfl (x_bin rfl rfl rfl (b_eqN (r := false) Tryd.underlying28 rfl)) ?_)
  refine l_of (s_val (v := .bool false) (wt0 rfl) rfl rfl (x_assign rfl rfl) ?_)
  refine g_nil ?_
  refine g_then ?_
  refine g_cond_f rfl rfl ?_
  refine g_seq ?_
  refine g_region ?_
  refine l_of (s_val (v := .int .i64 k) (wt0 rfl) rfl rfl (x_move rfl rfl) ?_)
  refine l_of (s_val (v := .bool (decide ((k : Int) < 0))) (wt0 rfl) rfl rfl (x_bin rfl rfl rfl b_lss) ?_)
  refine l_of (s_val (v := .bool (decide ((k : Int) < 0))) (wt0 rfl) rfl rfl (x_move rfl rfl) ?_)
  by_cases hb1 : (k : Int) < 0
  · skip
    refine l_of (s_not (wn1 rfl rfl rfl rfl (decide_eq_true hb1)) rfl rfl ?_)
    refine l_of (s_not (wn1 rfl rfl rfl rfl (decide_eq_true hb1)) rfl rfl ?_)
    refine l_of (s_not (wn1 rfl rfl rfl rfl (decide_eq_true hb1)) rfl rfl ?_)
    refine l_of (s_not (wn1 rfl rfl rfl rfl (decide_eq_true hb1)) rfl rfl ?_)
    refine l_of (s_not (wn1 rfl rfl rfl rfl (decide_eq_true hb1)) rfl rfl ?_)
    refine l_of (s_not (wn1 rfl rfl rfl rfl (decide_eq_true hb1)) rfl rfl ?_)
    refine l_of (s_val (v := .bool true) (wt0 rfl) rfl rfl (x_pick_t rfl rfl (decide_eq_true hb1) rfl) ?_)
    refine l_of (s_val (v := .bool true) (wt0 rfl) rfl rfl (x_assign rfl rfl) ?_)
    refine g_nil ?_
    refine g_then ?_
    refine g_weak [(0, .pointer (some ⟨h, 0, none⟩)), (1, .int .i64 k), (10, .bool true)] ⟨rfl, rfl, rfl, trivial⟩ ?_
    refine g_cond_t rfl rfl ?_
    refine g_seq ?_
    refine g_region ?_
    refine l_of (s_val (v := .int .i64 0) (wt0 rfl) rfl rfl (x_assign rfl rfl) ?_)
    refine l_of (s_val (v := .int .i64 0) (wt0 rfl) rfl rfl (x_assign rfl rfl) ?_)
    refine l_of (s_val (v := .int .i64 7) (wt0 rfl) rfl rfl (x_assign rfl rfl) ?_)
    refine g_nil ?_
    refine g_then ?_
    refine g_ret ?_
    refine g_in_ret ?_
    refine g_then_ret ?_
    refine fin_ret [.tmp 4, .tmp 5, .tmp 6] [.int .i64 0, .int .i64 0, .int .i64 7] rfl ⟨rfl, rfl, rfl, trivial⟩ ?_
    have hk7 : (k < 0 ∨ (n : Int) ≤ k) := by omega
    have h0 : countT (⟨seed, n, rs.map Shr.sh⟩ : SP) k = 0 := if_pos hk7
    have h1 : countH (⟨seed, n, rs.map Shr.sh⟩ : SP) k = 0 := if_pos hk7
    have h2 : countE (⟨seed, n, rs.map Shr.sh⟩ : SP) k = 7 := if_pos hk7
    rw [h0, h1, h2]
    exact ⟨rfl, (S.big (L := [_, _, _]) (H0.takes [0, 1, 2, 3] (by decide)))⟩
  · skip
    refine l_of (s_val (v := .int .i64 k) (wt1 rfl rfl rfl rfl (decide_eq_false hb1)) rfl rfl (x_move rfl rfl) ?_)
    refine l_of (s_val (v := .pointer (some ⟨h, 0, none⟩)) (wt1 rfl rfl rfl rfl (decide_eq_false hb1)) rfl rfl (x_move rfl rfl) ?_)
    refine l_of (s_val (v := .pointer (some ⟨h, 0, none⟩)) (wt1 rfl rfl rfl rfl (decide_eq_false hb1)) rfl rfl (x_nilCheck rfl rfl) ?_)
    refine l_of (s_val (v := .pointer (some ⟨h, 1, none⟩)) (wt1 rfl rfl rfl rfl (decide_eq_false hb1)) rfl rfl (x_fieldAddr rfl rfl fo52_1 rfl) ?_)
    refine l_of (s_val (v := .int .i64 ((n : Int))) (wt1 rfl rfl rfl rfl (decide_eq_false hb1)) rfl rfl (x_load1 H0 0 rfl rfl Tryd.underlying3 rfl rfl rfl) ?_)
    refine l_of (s_val (v := .bool (decide (((n : Int) : Int) ≤ k))) (wt1 rfl rfl rfl rfl (decide_eq_false hb1)) rfl rfl (x_bin rfl rfl rfl b_geq) ?_)
    refine l_of (s_val (v := .bool (decide (((n : Int) : Int) ≤ k))) (wt0 rfl) rfl rfl (x_pick_f rfl rfl (decide_eq_false hb1) rfl) ?_)
    refine l_of (s_val (v := .bool (decide (((n : Int) : Int) ≤ k))) (wt0 rfl) rfl rfl (x_assign rfl rfl) ?_)
    refine g_nil ?_
    refine g_then ?_
    refine g_weak [(0, .pointer (some ⟨h, 0, none⟩)), (1, .int .i64 k), (10, .bool (decide (((n : Int) : Int) ≤ k)))] ⟨rfl, rfl, rfl, trivial⟩ ?_
    by_cases hb2 : ((n : Int) : Int) ≤ k
    · skip
      refine g_cond_t rfl (decide_eq_true hb2) ?_
      refine g_seq ?_
      refine g_region ?_
      refine l_of (s_val (v := .int .i64 0) (wt0 rfl) rfl rfl (x_assign rfl rfl) ?_)
      refine l_of (s_val (v := .int .i64 0) (wt0 rfl) rfl rfl (x_assign rfl rfl) ?_)
      refine l_of (s_val (v := .int .i64 7) (wt0 rfl) rfl rfl (x_assign rfl rfl) ?_)
      refine g_nil ?_
      refine g_then ?_
      refine g_ret ?_
      refine g_in_ret ?_
      refine g_then_ret ?_
      refine fin_ret [.tmp 4, .tmp 5, .tmp 6] [.int .i64 0, .int .i64 0, .int .i64 7] rfl ⟨rfl, rfl, rfl, trivial⟩ ?_
      have hk7 : (k < 0 ∨ (n : Int) ≤ k) := by omega
      have h0 : countT (⟨seed, n, rs.map Shr.sh⟩ : SP) k = 0 := if_pos hk7
      have h1 : countH (⟨seed, n, rs.map Shr.sh⟩ : SP) k = 0 := if_pos hk7
      have h2 : countE (⟨seed, n, rs.map Shr.sh⟩ : SP) k = 7 := if_pos hk7
      rw [h0, h1, h2]
      exact ⟨rfl, (S.big (L := [_, _, _]) (H0.takes [0, 1, 2, 3] (by decide)))⟩
    · skip
      refine g_cond_f rfl (decide_eq_false hb2) ?_
      refine g_skip ?_
      refine g_in ?_
      refine g_then ?_
      refine g_seq ?_
      refine g_region ?_
      refine l_of (s_val (v := .pointer (some ⟨h, 0, none⟩)) (wt0 rfl) rfl rfl (x_move rfl rfl) ?_)
      refine l_of (s_val (v := .int .i64 k) (wt0 rfl) rfl rfl (x_move rfl rfl) ?_)
      refine l_of (s_call (wt0 rfl) (x_call' rfl rfl cl28) (countsr_s j h pp kc seed n rs hZ hj k _ (H0.takes [0, 1, 2] (by decide))) ?_)
      rintro _ wq3 ⟨rfl, H4⟩
      replace H4 : S wq3 [Ob h (.cells #[.string seed, .int .i64 ((n : Int)), .slice pp rs.length kc] 52 (0, 0)), Rw 61 3 pp rs.length kc (fl shwL rs), (Lst RoI rs), Old w (fps [(RM.I ⟨h, pp, kc, seed, n, rs⟩)])] := H0.absorbI (new := [Ob h (.cells #[.string seed, .int .i64 ((n : Int)), .slice pp rs.length kc] 52 (0, 0)), Rw 61 3 pp rs.length kc (fl shwL rs), (Lst RoI rs)]) [0, 1, 2] H4
      refine b_ret rfl rfl ?_
      refine l_of (s_val (v := .tuple #[.int .i64 ((tcN (rs.map Shr.sh) k : Int)), .int .i64 ((hcN (rs.map Shr.sh) k : Int))]) (wt0 rfl) rfl rfl (x_move rfl rfl) ?_)
      refine l_of (s_val (v := .int .i64 ((tcN (rs.map Shr.sh) k : Int))) (wt0 rfl) rfl rfl (x_extract rfl rfl rfl) ?_)
      refine l_of (s_val (v := .int .i64 ((hcN (rs.map Shr.sh) k : Int))) (wt0 rfl) rfl rfl (x_extract rfl rfl rfl) ?_)
      refine l_of (s_val (v := .int .i64 ((tcN (rs.map Shr.sh) k : Int))) (wt0 rfl) rfl rfl (x_assign rfl rfl) ?_)
      refine l_of (s_val (v := .int .i64 ((hcN (rs.map Shr.sh) k : Int))) (wt0 rfl) rfl rfl (x_assign rfl rfl) ?_)
      refine g_nil ?_
      refine g_then ?_
      refine g_seq ?_
      refine g_region ?_
      refine l_of (s_val (v := .int .i64 ((tcN (rs.map Shr.sh) k : Int))) (wt0 rfl) rfl rfl (x_move rfl rfl) ?_)
      refine l_of (s_val (v := .int .i64 ((hcN (rs.map Shr.sh) k : Int))) (wt0 rfl) rfl rfl (x_move rfl rfl) ?_)
      refine l_of (s_val (v := .int .i64 ((tcN (rs.map Shr.sh) k : Int))) (wt0 rfl) rfl rfl (x_assign rfl rfl) ?_)
      refine l_of (s_val (v := .int .i64 ((hcN (rs.map Shr.sh) k : Int))) (wt0 rfl) rfl rfl (x_assign rfl rfl) ?_)
      refine l_of (s_val (v := .int .i64 0) (wt0 rfl) rfl rfl (x_assign rfl rfl) ?_)
      refine g_nil ?_
      refine g_then ?_
      refine g_ret ?_
      refine fin_ret [.tmp 4, .tmp 5, .tmp 6] [.int .i64 ((tcN (rs.map Shr.sh) k : Int)), .int .i64 ((hcN (rs.map Shr.sh) k : Int)), .int .i64 0] rfl ⟨rfl, rfl, rfl, trivial⟩ ?_
      have hk7 : ¬ (k < 0 ∨ (n : Int) ≤ k) := by omega
      have h0 : countT (⟨seed, n, rs.map Shr.sh⟩ : SP) k = (tcN (rs.map Shr.sh) k : Int) := if_neg hk7
      have h1 : countH (⟨seed, n, rs.map Shr.sh⟩ : SP) k = (hcN (rs.map Shr.sh) k : Int) := if_neg hk7
      have h2 : countE (⟨seed, n, rs.map Shr.sh⟩ : SP) k = 0 := if_neg hk7
      rw [h0, h1, h2]
      exact ⟨rfl, (S.big (L := [_, _, _]) (H4.takes [0, 1, 2, 3] (by decide)))⟩
set_option maxRecDepth 20000 in
set_option maxHeartbeats 4000000 in
set_option maxRecDepth 20000 in
set_option maxHeartbeats 4000000 in
theorem wholer_s (j h : Nat) (pp : Option Addr) (kc : Nat) (seed : ByteArray) (n : Nat) (rs : List Shr) (hZ : PI j (⟨seed, n, rs.map Shr.sh⟩ : SP)) (hj : j ≤ 1000)  (w : World) (HS : S w [(RM.I ⟨h, pp, kc, seed, n, rs⟩)]) : Calls Tryd.prog 22 #[.pointer (some ⟨h, 0, none⟩)] w fun e w' => e = .returned (.bool (wholeB (⟨seed, n, rs.map Shr.sh⟩ : SP))) ∧ S w' ([(RM.I ⟨h, pp, kc, seed, n, rs⟩)] ++ [Old w (fps [(RM.I ⟨h, pp, kc, seed, n, rs⟩)])]) := by
  have H00 := HS.beginI
  have H0 : S w ([(RM.I ⟨h, pp, kc, seed, n, rs⟩), Old w (fps [(RM.I ⟨h, pp, kc, seed, n, rs⟩)])]) := H00
  have hPI : PI j (⟨seed, n, rs.map Shr.sh⟩ : SP) := hZ
  have hps : rs.length ≤ j := by have := hPI.len; simpa using this
  have hn30 : n ≤ 30 := hPI.n30
  have hrok : ∀ (i9 : Nat) (x9 : Shr), rs[i9]? = some x9 → x9.told.length ≤ j ∧ x9.holds.length ≤ j := fun i9 x9 h9 => by have h8 := hPI.at (i := i9) (p := x9.sh) (by show (rs.map Shr.sh)[i9]? = _; rw [List.getElem?_map, h9]; rfl); exact ⟨h8.2.1, h8.2.2.1⟩
  replace H0 : S w [Ob h (.cells #[.string seed, .int .i64 ((n : Int)), .slice pp rs.length kc] 52 (0, 0)), Rw 61 3 pp rs.length kc (fl shwL rs), (Lst RoI rs), Old w (fps [(RM.I ⟨h, pp, kc, seed, n, rs⟩)])] := S.unbig H0
  refine enter 22 Tryd.func22 rfl rfl rfl ?_
  refine g_weak [(0, .pointer (some ⟨h, 0, none⟩))] ⟨rfl, trivial⟩ ?_
  refine g_seq ?_
  refine g_region ?_
  refine l_of (s_val (v := .bool false) (wt0 rfl) rfl rfl (x_assign rfl rfl) ?_)
  refine g_nil ?_
  refine g_then ?_
  refine g_seq ?_
  refine g_seq ?_
  refine g_region ?_
  refine l_of (s_val (v := .pointer (some ⟨h, 0, none⟩)) (wt0 rfl) rfl rfl (x_move rfl rfl) ?_)
  refine l_of (s_val (v := .pointer (some ⟨h, 0, none⟩)) (wt0 rfl) rfl rfl (x_nilCheck rfl rfl) ?_)
  refine l_of (s_val (v := .pointer (some ⟨h, 1, none⟩)) (wt0 rfl) rfl rfl (x_fieldAddr rfl rfl fo52_1 rfl) ?_)
  refine l_of (s_val (v := .int .i64 ((n : Int))) (wt0 rfl) rfl rfl (x_load1 H0 0 rfl rfl Tryd.underlying3 rfl rfl rfl) ?_)
  refine l_of (s_val (v := .int .i64 0) (wt0 rfl) rfl rfl (x_move rfl rfl) ?_)
  refine g_nil ?_
  refine g_then ?_
  refine g_block ?_
  refine g_loop (ι := Nat) (fun i => [(0, .pointer (some ⟨h, 0, none⟩)), (9, .int .i64 ((n : Int))), (10, .int .i64 ((i : Int)))]) (fun i wx => (i ≤ n) ∧ (∀ k : Nat, k < i → ¬ (hcN (rs.map Shr.sh) (k : Int) : Int) = 0) ∧ S wx [Ob h (.cells #[.string seed, .int .i64 ((n : Int)), .slice pp rs.length kc] 52 (0, 0)), Rw 61 3 pp rs.length kc (fl shwL rs), (Lst RoI rs), Old w (fps [(RM.I ⟨h, pp, kc, seed, n, rs⟩)])]) (fun i => n - i) (0) ⟨rfl, rfl, rfl, trivial⟩ ⟨Nat.zero_le _, (fun k hk => absurd hk (Nat.not_lt_zero _)), (H0.takes [0, 1, 2, 3] (by decide))⟩ ?_
  rintro i wq1 ⟨hi, hno, H2⟩
  replace H2 : S wq1 [Ob h (.cells #[.string seed, .int .i64 ((n : Int)), .slice pp rs.length kc] 52 (0, 0)), Rw 61 3 pp rs.length kc (fl shwL rs), (Lst RoI rs), Old w (fps [(RM.I ⟨h, pp, kc, seed, n, rs⟩)])] := H2
  refine g_weak [(0, .pointer (some ⟨h, 0, none⟩)), (9, .int .i64 ((n : Int))), (10, .int .i64 ((i : Int)))] ⟨rfl, rfl, rfl, trivial⟩ ?_
  refine g_seq ?_
  refine g_region ?_
  refine l_of (s_val (v := .bool (decide (((i : Int) : Int) < (n : Int)))) (wt0 rfl) rfl rfl (x_bin rfl rfl rfl b_lss) ?_)
  refine g_nil ?_
  refine g_then ?_
  refine g_seq ?_
  by_cases hb3 : ((i : Int) : Int) < (n : Int)
  · skip
    refine g_cond_t rfl (decide_eq_true hb3) ?_
    refine g_skip ?_
    refine g_then ?_
    refine g_seq ?_
    refine g_block ?_
    refine g_seq ?_
    refine g_region ?_
    refine l_of (s_val (v := .int .i64 ((i : Int))) (wt0 rfl) rfl rfl (x_move rfl rfl) ?_)
    refine l_of (s_val (v := .int .i64 ((i : Int))) (wt0 rfl) rfl rfl (x_assign rfl rfl) ?_)
    refine g_nil ?_
    refine g_then ?_
    refine g_seq ?_
    refine g_region ?_
    refine l_of (s_val (v := .pointer (some ⟨h, 0, none⟩)) (wt0 rfl) rfl rfl (x_move rfl rfl) ?_)
    refine l_of (s_val (v := .int .i64 ((i : Int))) (wt0 rfl) rfl rfl (x_move rfl rfl) ?_)
    refine l_of (s_call (wt0 rfl) (x_call' rfl rfl cl28) (countsr_s j h pp kc seed n rs hZ hj (i : Int) _ (H2.takes [0, 1, 2] (by decide))) ?_)
    rintro _ wq4 ⟨rfl, H5⟩
    replace H5 : S wq4 [Ob h (.cells #[.string seed, .int .i64 ((n : Int)), .slice pp rs.length kc] 52 (0, 0)), Rw 61 3 pp rs.length kc (fl shwL rs), (Lst RoI rs), Old w (fps [(RM.I ⟨h, pp, kc, seed, n, rs⟩)])] := H2.absorbI (new := [Ob h (.cells #[.string seed, .int .i64 ((n : Int)), .slice pp rs.length kc] 52 (0, 0)), Rw 61 3 pp rs.length kc (fl shwL rs), (Lst RoI rs)]) [0, 1, 2] H5
    refine b_ret rfl rfl ?_
    refine l_of (s_val (v := .tuple #[.int .i64 ((tcN (rs.map Shr.sh) (i : Int) : Int)), .int .i64 ((hcN (rs.map Shr.sh) (i : Int) : Int))]) (wt0 rfl) rfl rfl (x_move rfl rfl) ?_)
    refine l_of (s_val (v := .int .i64 ((tcN (rs.map Shr.sh) (i : Int) : Int))) (wt0 rfl) rfl rfl (x_extract rfl rfl rfl) ?_)
    refine l_of (s_val (v := .int .i64 ((hcN (rs.map Shr.sh) (i : Int) : Int))) (wt0 rfl) rfl rfl (x_extract rfl rfl rfl) ?_)
    refine l_of (s_val (v := .int .i64 ((tcN (rs.map Shr.sh) (i : Int) : Int))) (wt0 rfl) rfl rfl (x_assign rfl rfl) ?_)
    refine l_of (s_val (v := .int .i64 ((hcN (rs.map Shr.sh) (i : Int) : Int))) (wt0 rfl) rfl rfl (x_assign rfl rfl) ?_)
    refine g_nil ?_
    refine g_then ?_
    refine g_seq ?_
    refine g_region ?_
    refine l_of (s_val (v := .int .i64 ((hcN (rs.map Shr.sh) (i : Int) : Int))) (wt0 rfl) rfl rfl (x_move rfl rfl) ?_)
    refine l_of (s_val (v := .bool (decide (((hcN (rs.map Shr.sh) (i : Int) : Int) : Int) = 0))) (wt0 rfl) rfl rfl (x_bin rfl rfl rfl b_eql) ?_)
    refine g_nil ?_
    refine g_then ?_
    refine g_weak [(0, .pointer (some ⟨h, 0, none⟩)), (9, .int .i64 ((n : Int))), (10, .int .i64 ((i : Int))), (20, .bool (decide (((hcN (rs.map Shr.sh) (i : Int) : Int) : Int) = 0)))] ⟨rfl, rfl, rfl, rfl, trivial⟩ ?_
    by_cases hb6 : ((hcN (rs.map Shr.sh) (i : Int) : Int) : Int) = 0
    · skip
      refine g_cond_t rfl (decide_eq_true hb6) ?_
      refine g_seq ?_
      refine g_region ?_
      refine l_of (s_val (v := .bool false) (wt0 rfl) rfl rfl (x_assign rfl rfl) ?_)
      refine g_nil ?_
      refine g_then ?_
      refine g_ret ?_
      refine g_in_ret ?_
      refine g_then_ret ?_
      refine g_then_ret ?_
      refine g_in_ret ?_
      refine g_then_ret ?_
      refine fin_ret [.tmp 2] [.bool false] rfl ⟨rfl, trivial⟩ ?_
      have hw : wholeB (⟨seed, n, rs.map Shr.sh⟩ : SP) = false := by unfold wholeB; rw [decide_eq_true (cntL_mem.2 ⟨i, by show i < n; omega, hb6⟩)]; rfl
      rw [hw]
      exact ⟨rfl, (S.big (L := [_, _, _]) (H5.takes [0, 1, 2, 3] (by decide)))⟩
    · skip
      refine g_cond_f rfl (decide_eq_false hb6) ?_
      refine g_skip ?_
      refine g_in ?_
      refine g_then ?_
      refine g_region ?_
      refine l_of (s_val (v := .int .i64 (((i + 1 : Nat) : Int))) (wt0 rfl) rfl rfl (x_bin rfl rfl rfl (b_add (by rw [w64 (by omega)]; omega))) ?_)
      refine l_of (s_val (v := .int .i64 (((i + 1 : Nat) : Int))) (wt0 rfl) rfl rfl (x_move rfl rfl) ?_)
      refine g_nil ?_
      refine g_then ?_
      refine g_round (i := (i)) ((i + 1)) ?_ ?_ ?_
      · exact ⟨rfl, rfl, rfl, trivial⟩
      · exact ⟨(by omega), (fun k hk => by rcases Nat.lt_succ_iff_lt_or_eq.1 hk with h9 | rfl; exact hno k h9; exact hb6), (H5.takes [0, 1, 2, 3] (by decide))⟩
      · (try dsimp only); omega
  · skip
    refine g_cond_f rfl (decide_eq_false hb3) ?_
    refine g_exit ?_
    refine g_then_exit ?_
    refine g_then_exit ?_
    refine g_in_hit ?_
    refine g_then ?_
    refine g_seq ?_
    refine g_region ?_
    refine l_of (s_val (v := .bool true) (wt0 rfl) rfl rfl (x_assign rfl rfl) ?_)
    refine g_nil ?_
    refine g_then ?_
    refine g_ret ?_
    refine fin_ret [.tmp 2] [.bool true] rfl ⟨rfl, trivial⟩ ?_
    have hw : wholeB (⟨seed, n, rs.map Shr.sh⟩ : SP) = true := by unfold wholeB; rw [decide_eq_false (fun h9 => by obtain ⟨k, hk, he⟩ := cntL_mem.1 h9; have hk : k < n := hk; exact hno k (by omega) he)]; rfl
    rw [hw]
    exact ⟨rfl, (S.big (L := [_, _, _]) (H2.takes [0, 1, 2, 3] (by decide)))⟩
end Go.Proofs.YthfglkkjkpdkpaaDoor
