import Derived.Test.YtdkfkdekiljcoaaGreatRF
set_option linter.unusedSimpArgs false
set_option linter.unusedVariables false
namespace Go.Proofs.YtdkfkdekiljcoaaGreat
open Go.RowKit

theorem inf65 : infO Tryz.prog 65 = some (some (.agg #[.int .i64 0, .int .i64 0, .int .i64 0, .bool false]), 4, 32) := by kernel_rfl
theorem sz65 : szO Tryz.prog 65 = some 4 := by kernel_rfl
theorem ze65 : zeO Tryz.prog 65 = some (.agg #[.int .i64 0, .int .i64 0, .int .i64 0, .bool false]) := by kernel_rfl
def qL (p : Ch × Bool) : List Value := [.int .i64 p.1.p, .int .i64 p.1.b, .int .i64 p.1.n, .bool p.2]
/-- The requests of the reference. -/
def qV (l : List (Ch × Bool)) : List Value := l.flatMap qL
def Q0 : Ch × Bool := (Ch.none, false)
theorem qV_at {l : List (Ch × Bool)} {j : Nat} (h : j < l.length) : ∀ i u, (qL (l.getD j Q0))[i]? = some u → (qV l)[j * 4 + i]? = some u :=
  flat_at (size := 4) (fun _ _ => rfl) (by rw [List.getD_eq_getElem?_getD, List.getElem?_eq_getElem h]; rfl)
theorem qV_one (l : List (Ch × Bool)) : (qV l).all (·.oneCell') = true := by
  unfold qV; rw [List.all_eq_true]; intro v hv
  obtain ⟨x, _, h⟩ := List.mem_flatMap.1 hv
  unfold qL at h
  simp only [List.mem_cons, List.not_mem_nil, or_false] at h
  rcases h with rfl | rfl | rfl | rfl <;> rfl
theorem qV_app (a b : List (Ch × Bool)) : qV (a ++ b) = qV a ++ qV b := by unfold qV; rw [List.flatMap_append]
theorem qV_cons (a : Ch × Bool) (l : List (Ch × Bool)) : qV (a :: l) = qL a ++ qV l := by unfold qV; rw [List.flatMap_cons]
theorem qV_take : ∀ (l : List (Ch × Bool)) (i : Nat), (qV l).take (i * 4) = qV (l.take i)
  | l, 0 => by simp [qV]
  | [], i + 1 => by simp [qV]
  | a :: l, i + 1 => by
    rw [qV_cons, List.take_succ_cons, qV_cons, ← qV_take l i, List.take_append, show (qL a).length = 4 from rfl, List.take_of_length_le (by show (qL a).length ≤ _; rw [show (qL a).length = 4 from rfl]; omega), show (i + 1) * 4 - 4 = i * 4 from by omega]
theorem qV_drop : ∀ (l : List (Ch × Bool)) (i : Nat), (qV l).drop (i * 4) = qV (l.drop i)
  | l, 0 => by simp
  | [], i + 1 => by simp [qV]
  | a :: l, i + 1 => by
    rw [qV_cons, List.drop_succ_cons, ← qV_drop l i, List.drop_append, show (qL a).length = 4 from rfl, List.drop_eq_nil_of_le (by rw [show (qL a).length = 4 from rfl]; omega), List.nil_append, show (i + 1) * 4 - 4 = i * 4 from by omega]
theorem qV_len (l : List (Ch × Bool)) : (qV l).length = l.length * 4 := by unfold qV; rw [flat_length (size := 4) (fun _ _ => rfl)]
theorem cutP_n (p : Option Addr) (c size : Nat) : cutP p 0 c size = p := cutP_zero p c size
theorem take_reads {w : World} {l : List (Ch × Bool)} {p : Option Addr} {c : Nat} (hr : Reads w p l.length c 4 (qV l)) {i : Nat} (hi : i ≤ l.length) : Reads w p i c 4 (qV (l.take i)) := by
  have := hr.take i hi
  rw [qV_take] at this; exact this
theorem drop_reads {w : World} {l : List (Ch × Bool)} {p : Option Addr} {c : Nat} (hr : Reads w p l.length c 4 (qV l)) {i : Nat} (hi : i ≤ l.length) : Reads w (cutP p i c 4) (l.length - i) (c - i) 4 (qV (l.drop i)) := by
  have := hr.cut i l.length hi (Nat.le_refl _)
  rw [qV_drop, List.take_of_length_le (by rw [qV_len, List.length_drop]; exact Nat.le_refl _)] at this; exact this
theorem q_none {l : List (Ch × Bool)} {x : Ch} (hno : ∀ i, i < l.length → ¬ (l.getD i Q0).1 = x) : ∀ p ∈ l, ¬ p.1 = x := fun p hp e => by
  obtain ⟨i, hi, he⟩ := List.getElem_of_mem hp
  exact hno i hi (by rw [List.getD_eq_getElem?_getD, List.getElem?_eq_getElem hi]; show (l[i]).1 = x; rw [he]; exact e)
theorem q_step {l : List (Ch × Bool)} {x : Ch} {j : Nat} (hno : ∀ i, i < j → ¬ (l.getD i Q0).1 = x) (h : ¬ (l.getD j Q0).1 = x) : ∀ i, i < j + 1 → ¬ (l.getD i Q0).1 = x := fun i hi => by
  rcases Nat.lt_succ_iff_lt_or_eq.1 hi with h1 | h1
  · exact hno i h1
  · rw [h1]; exact h
set_option maxRecDepth 20000 in
set_option maxHeartbeats 4000000 in
theorem in_r (l : List Int) (p : Option Addr) (c : Nat) (x : Int) (hm : l.length ≤ 1099511627776) (w : World) (hr : Reads w p l.length c 1 (zV l)) : Calls Tryz.prog 24 #[.slice p l.length c, .int .i64 x] w fun e w' => e = .returned (.bool (inB l x)) ∧ S w' [Old w no] := by
 have H0 := S.old w
 refine enter 17 Tryz.func24 rfl rfl rfl ?_
 refine g_weak [(0, .slice p l.length c), (1, .int .i64 x)] ⟨rfl, rfl, trivial⟩ ?_
 refine w_s ?_
 refine w_a ?_
 refine w_e ?_
 refine g_seq ?_
 refine w_s ?_
 refine w_m ?_
 refine w_v (v := .int .i64 ((l.length : Int))) (x_lenl rfl rfl Tryz.underlying54) ?_
 refine w_m ?_
 refine w_e ?_
 refine g_block ?_
 refine g_loop (ι := Nat) (fun j => [(1, .int .i64 x), (7, .slice p l.length c), (8, .int .i64 ((l.length : Int))), (9, .int .i64 ((j : Int)))]) (fun j wx => (j ≤ l.length) ∧ (∀ i, i < j → ¬ l.getD i 0 = x) ∧ S wx [Old w no]) (fun j => l.length - j) (0) ⟨rfl, rfl, rfl, rfl, trivial⟩ ⟨Nat.zero_le _, (fun i hi => absurd hi (Nat.not_lt_zero i)), H0⟩ ?_
 rintro j wq1 ⟨hj, hno, H2⟩
 refine g_weak [(1, .int .i64 x), (7, .slice p l.length c), (8, .int .i64 ((l.length : Int))), (9, .int .i64 ((j : Int)))] ⟨rfl, rfl, rfl, rfl, trivial⟩ ?_
 refine w_s ?_
 refine w_b ?_
 refine w_e ?_
 refine g_seq ?_
 by_cases hb3 : ((j : Int) : Int) < (l.length : Int)
 ·
  refine g_cond_t rfl (decide_eq_true hb3) ?_
  refine g_skip ?_
  refine g_then ?_
  refine g_seq ?_
  refine g_block ?_
  refine w_s ?_
  refine w_v (v := .pointer ((p).map fun q => q.add (j * 1))) (x_idxR j (H2.oldReads (k := 0) rfl hr) rfl rfl rfl Tryz.underlying54 sz3 (by omega)) ?_
  refine w_v (v := .int .i64 ((l.getD (j) 0))) (x_loadR1 j (H2.oldReads (k := 0) rfl hr) (by omega) rfl rfl Tryz.underlying3 rfl (zV_at (by omega))) ?_
  refine w_a ?_
  refine w_e ?_
  refine w_s ?_
  refine w_r2 ?_
  refine w_b ?_
  refine w_e ?_
  by_cases hb4 : ((l.getD (j) 0) : Int) = x
  ·
   refine g_cond_t rfl (decide_eq_true hb4) ?_
   refine w_s ?_
   refine w_a ?_
   refine w_e ?_
   refine g_ret ?_
   refine g_in_ret ?_
   refine g_then_ret ?_
   refine g_then_ret ?_
   refine g_in_ret ?_
   refine g_then_ret ?_
   refine fin_ret [.tmp 4] [.bool true] rfl ⟨rfl, trivial⟩ ?_
   exact ⟨by unfold inB; rw [decide_eq_true (in_here (j := j) (by omega) hb4)]; rfl, H2.mask [true]⟩
  ·
   refine g_cond_f rfl (decide_eq_false hb4) ?_
   refine g_skip ?_
   refine g_in ?_
   refine g_then ?_
   refine g_region ?_
   refine w_b (v := .int .i64 ((j : Int) + 1)) (hb := (b_add (w64 (by omega)))) ?_
   refine w_m ?_
   refine w_e ?_
   refine g_round (i := (j)) (j + 1) ?_ ?_ ?_
   · exact ⟨rfl, rfl, rfl, rfl, trivial⟩
   · exact ⟨by omega, (in_step hno hb4), H2⟩
   · (try dsimp only); omega
 ·
  refine g_cond_f rfl (decide_eq_false hb3) ?_
  refine g_exit ?_
  refine g_then_exit ?_
  refine g_then_exit ?_
  refine g_in_hit ?_
  refine g_then ?_
  refine w_s ?_
  refine w_a ?_
  refine w_e ?_
  refine g_ret ?_
  refine fin_ret [.tmp 4] [.bool false] rfl ⟨rfl, trivial⟩ ?_
  exact ⟨by unfold inB; rw [decide_eq_false (in_none (fun i hi => hno i (by omega)))]; rfl, H2.mask [true]⟩
set_option maxRecDepth 20000 in
set_option maxHeartbeats 4000000 in
theorem find_r (l : List (Ch × Bool)) (p : Option Addr) (c : Nat) (x : Ch) (hm : l.length ≤ 1099511627776) (w : World) (hr : Reads w p l.length c 4 (qV l)) : Calls Tryz.prog 26 #[.slice p l.length c, .agg #[.int .i64 (x.p), .int .i64 (x.b), .int .i64 (x.n)]] w fun e w' => ∃ r : Int, e = .returned (.int .i64 r) ∧ ((r = -1 ∧ ∀ p ∈ l, ¬ p.1 = x) ∨ ∃ i : Nat, r = (i : Int) ∧ i < l.length ∧ (l.getD i Q0).1 = x ∧ ∀ j, j < i → ¬ (l.getD j Q0).1 = x) ∧ S w' [Old w no] := by
 have H0 := S.old w
 refine enter 20 Tryz.func26 rfl rfl rfl ?_
 refine g_weak [(0, .slice p l.length c), (1, .agg #[.int .i64 (x.p), .int .i64 (x.b), .int .i64 (x.n)])] ⟨rfl, rfl, trivial⟩ ?_
 refine w_s ?_
 refine l_of (s_box H0 (wt0 rfl) rfl rfl rfl rfl ?_)
 intro g1 wq2 H3
 refine w_a ?_
 refine w_e ?_
 refine g_seq ?_
 refine w_s ?_
 refine w_m ?_
 refine w_v (v := .int .i64 ((l.length : Int))) (x_lenl rfl rfl Tryz.underlying55) ?_
 refine w_m ?_
 refine w_e ?_
 refine g_block ?_
 refine g_loop (ι := Nat) (fun j => [(3, .pointer (some ⟨g1, 0, none⟩)), (7, .slice p l.length c), (8, .int .i64 ((l.length : Int))), (9, .int .i64 ((j : Int)))]) (fun j wx => (j ≤ l.length) ∧ (∀ i, i < j → ¬ (l.getD i Q0).1 = x) ∧ S wx [Ob g1 (.cells #[.int .i64 (x.p), .int .i64 (x.b), .int .i64 (x.n)] 49 (0, 0)), Old w no]) (fun j => l.length - j) (0) ⟨rfl, rfl, rfl, rfl, trivial⟩ ⟨Nat.zero_le _, (fun i hi => absurd hi (Nat.not_lt_zero i)), H3⟩ ?_
 rintro j wq4 ⟨hj, hno, H5⟩
 refine g_weak [(3, .pointer (some ⟨g1, 0, none⟩)), (7, .slice p l.length c), (8, .int .i64 ((l.length : Int))), (9, .int .i64 ((j : Int)))] ⟨rfl, rfl, rfl, rfl, trivial⟩ ?_
 refine w_s ?_
 refine w_b ?_
 refine w_e ?_
 refine g_seq ?_
 by_cases hb6 : ((j : Int) : Int) < (l.length : Int)
 ·
  refine g_cond_t rfl (decide_eq_true hb6) ?_
  refine g_skip ?_
  refine g_then ?_
  refine g_seq ?_
  refine g_block ?_
  refine w_s ?_
  refine w_m ?_
  refine w_v (v := .pointer ((p).map fun q => q.add (j * 4))) (x_idxR j (H5.oldReads (k := 1) rfl hr) rfl rfl rfl Tryz.underlying55 sz65 (by omega)) ?_
  refine w_v (v := .agg #[.int .i64 ((l.getD (j) Q0).1.p), .int .i64 ((l.getD (j) Q0).1.b), .int .i64 ((l.getD (j) Q0).1.n), .bool ((l.getD (j) Q0).2)]) (x_loadRA (vs := (qL (l.getD (j) Q0))) j (H5.oldReads (k := 1) rfl hr) (by omega) rfl rfl Tryz.underlying65 rfl sz65 (by rfl) (qV_at (by omega))) ?_
  refine l_of (s_alloc H5 (wt0 rfl) rfl rfl rfl ze65 ?_)
  intro g7 wq8 H9
  refine w_a ?_
  refine l_of (w_st #[.int .i64 ((l.getD (j) Q0).1.p), .int .i64 ((l.getD (j) Q0).1.b), .int .i64 ((l.getD (j) Q0).1.n), .bool ((l.getD (j) Q0).2)] H9 0 ?_)
  intro wq10 H11
  refine w_e ?_
  refine w_s ?_
  refine w_f 0 ?_
  refine w_v (v := .agg #[.int .i64 ((l.getD (j) Q0).1.p), .int .i64 ((l.getD (j) Q0).1.b), .int .i64 ((l.getD (j) Q0).1.n)]) (x_loadA H11 0 rfl rfl Tryz.underlying49 rfl sz49 rfl rfl rfl) ?_
  refine w_v (v := .agg #[.int .i64 (x.p), .int .i64 (x.b), .int .i64 (x.n)]) (x_loadA H11 1 rfl rfl Tryz.underlying49 rfl sz49 rfl rfl rfl) ?_
  refine w_b (v := .bool (decide ((l.getD (j) Q0).1 = x))) (hb := (b_chE ((l.getD (j) Q0).1) x)) ?_
  refine w_e ?_
  by_cases hb12 : (l.getD (j) Q0).1 = x
  ·
   refine g_cond_t rfl (decide_eq_true hb12) ?_
   refine w_s ?_
   refine w_r2 ?_
   refine w_e ?_
   refine g_weak [(4, .int .i64 ((j : Int)))] ⟨rfl, trivial⟩ ?_
   refine g_ret ?_
   refine g_in_ret ?_
   refine g_then_ret ?_
   refine g_then_ret ?_
   refine g_in_ret ?_
   refine g_then_ret ?_
   refine fin_ret [.tmp 4] [.int .i64 ((j : Int))] rfl ⟨rfl, trivial⟩ ?_
   exact ⟨_, rfl, .inr ⟨j, rfl, by omega, hb12, hno⟩, H11.mask [false, false, true]⟩
  ·
   refine g_cond_f rfl (decide_eq_false hb12) ?_
   refine g_skip ?_
   refine g_in ?_
   refine g_then ?_
   refine g_region ?_
   refine w_b (v := .int .i64 ((j : Int) + 1)) (hb := (b_add (w64 (by omega)))) ?_
   refine w_m ?_
   refine w_e ?_
   refine g_round (i := (j)) (j + 1) ?_ ?_ ?_
   · exact ⟨rfl, rfl, rfl, rfl, trivial⟩
   · exact ⟨by omega, (q_step hno hb12), (H11.mask [false, true, true])⟩
   · (try dsimp only); omega
 ·
  refine g_cond_f rfl (decide_eq_false hb6) ?_
  refine g_exit ?_
  refine g_then_exit ?_
  refine g_then_exit ?_
  refine g_in_hit ?_
  refine g_then ?_
  refine w_s ?_
  refine w_a ?_
  refine w_e ?_
  refine g_ret ?_
  refine fin_ret [.tmp 4] [.int .i64 (-1)] rfl ⟨rfl, trivial⟩ ?_
  exact ⟨-1, rfl, .inl ⟨rfl, q_none (fun i hi => hno i (by omega))⟩, H5.mask [false, true]⟩
set_option maxRecDepth 20000 in
set_option maxHeartbeats 4000000 in
theorem field_rs (k : Int) (w : World) : Calls Tryz.prog 46 #[.int .i64 k] w fun e w' => e = .returned (.bool (tellB k)) ∧ S w' [Old w no] := by
 have H0 := S.old w
 refine enter 13 Tryz.func46 rfl rfl rfl ?_
 refine g_weak [(0, .int .i64 k)] ⟨rfl, trivial⟩ ?_
 refine w_s ?_
 refine w_a ?_
 refine w_e ?_
 refine w_s ?_
 refine w_m ?_
 refine w_b ?_
 refine w_m ?_
 by_cases hb1 : (k : Int) = 7
 ·
  refine w_n (decide_eq_true hb1) ?_
  refine w_n (decide_eq_true hb1) ?_
  refine w_v (v := .bool true) (x_pick_t rfl rfl (decide_eq_true hb1) rfl) ?_
  refine w_m ?_
  refine w_n rfl ?_
  refine w_n rfl ?_
  refine w_v (v := .bool true) (x_pick_t rfl rfl rfl rfl) ?_
  refine w_a ?_
  refine w_e ?_
  refine g_ret ?_
  refine fin_ret [.tmp 2] [.bool true] rfl ⟨rfl, trivial⟩ ?_
  exact ⟨by unfold tellB; simp [hb1]; rfl, H0.mask [true]⟩
 ·
  refine w_g (decide_eq_false hb1) xm ?_
  refine w_g (decide_eq_false hb1) (x_bin rfl rfl rfl b_eql) ?_
  refine w_v (v := .bool (decide ((k : Int) = 13))) (x_pick_f rfl rfl (decide_eq_false hb1) rfl) ?_
  refine w_m ?_
  by_cases hb2 : (k : Int) = 13
  ·
   refine w_n (decide_eq_true hb2) ?_
   refine w_n (decide_eq_true hb2) ?_
   refine w_v (v := .bool true) (x_pick_t rfl rfl (decide_eq_true hb2) rfl) ?_
   refine w_a ?_
   refine w_e ?_
   refine g_ret ?_
   refine fin_ret [.tmp 2] [.bool true] rfl ⟨rfl, trivial⟩ ?_
   exact ⟨by unfold tellB; simp [hb1, hb2]; rfl, H0.mask [true]⟩
  ·
   refine w_g (decide_eq_false hb2) xm ?_
   refine w_g (decide_eq_false hb2) (x_bin rfl rfl rfl b_eql) ?_
   refine w_v (v := .bool (decide ((k : Int) = 14))) (x_pick_f rfl rfl (decide_eq_false hb2) rfl) ?_
   refine w_a ?_
   refine w_e ?_
   refine g_ret ?_
   refine fin_ret [.tmp 2] [.bool (decide ((k : Int) = 14))] rfl ⟨rfl, trivial⟩ ?_
   exact ⟨by unfold tellB; simp [hb1, hb2]; rfl, H0.mask [true]⟩
set_option maxRecDepth 20000 in
set_option maxHeartbeats 4000000 in
theorem of_t (rg : Nat) (w : World) : Calls Tryz.prog 21 #[.pointer (some ⟨rg, 0, none⟩), .bool true] w fun e w' => e = .returned (.pointer (some ⟨rg, 5, none⟩)) ∧ S w' [Old w no] := by
 have H0 := S.old w
 refine enter 12 Tryz.func21 rfl rfl rfl ?_
 refine g_weak [(0, .pointer (some ⟨rg, 0, none⟩)), (1, .bool true)] ⟨rfl, rfl, trivial⟩ ?_
 refine w_s ?_
 refine w_a ?_
 refine w_e ?_
 refine g_seq ?_
 refine w_s ?_
 refine w_m ?_
 refine w_e ?_
 refine g_cond_t rfl rfl ?_
 refine w_s ?_
 refine w_r4 ?_
 refine w_e ?_
 refine g_ret ?_
 refine g_then_ret ?_
 refine fin_ret [.tmp 4] [.pointer (some ⟨rg, 5, none⟩)] rfl ⟨rfl, trivial⟩ ?_
 exact ⟨rfl, H0.mask [true]⟩
set_option maxRecDepth 20000 in
set_option maxHeartbeats 4000000 in
theorem of_f (rg : Nat) (w : World) : Calls Tryz.prog 21 #[.pointer (some ⟨rg, 0, none⟩), .bool false] w fun e w' => e = .returned (.pointer (some ⟨rg, 11, none⟩)) ∧ S w' [Old w no] := by
 have H0 := S.old w
 refine enter 12 Tryz.func21 rfl rfl rfl ?_
 refine g_weak [(0, .pointer (some ⟨rg, 0, none⟩)), (1, .bool false)] ⟨rfl, rfl, trivial⟩ ?_
 refine w_s ?_
 refine w_a ?_
 refine w_e ?_
 refine g_seq ?_
 refine w_s ?_
 refine w_m ?_
 refine w_e ?_
 refine g_cond_f rfl rfl ?_
 refine g_skip ?_
 refine g_then ?_
 refine w_s ?_
 refine w_r4 ?_
 refine w_e ?_
 refine g_ret ?_
 refine fin_ret [.tmp 4] [.pointer (some ⟨rg, 11, none⟩)] rfl ⟨rfl, trivial⟩ ?_
 exact ⟨rfl, H0.mask [true]⟩
set_option maxRecDepth 20000 in
set_option maxHeartbeats 4000000 in
theorem without_r (l : List (Ch × Bool)) (p : Option Addr) (c i : Nat) (hm : l.length ≤ 1099511627776) (hi : i < l.length) (w : World) (hr : Reads w p l.length c 4 (qV l)) : Calls Tryz.prog 25 #[.slice p l.length c, .int .i64 ((i : Int))] w fun e w' => ∃ p' c', e = .returned (.slice p' (l.eraseIdx i).length c') ∧ S w' ([Rw 65 4 p' (l.eraseIdx i).length c' (qV (l.eraseIdx i))] ++ [Old w no]) := by
 have H0 := S.old w
 refine enter 18 Tryz.func25 rfl rfl rfl ?_
 refine g_weak [(0, .slice p l.length c), (1, .int .i64 ((i : Int)))] ⟨rfl, rfl, trivial⟩ ?_
 refine w_s ?_
 refine w_a ?_
 refine w_e ?_
 refine g_seq ?_
 refine w_s ?_
 refine w_m ?_
 refine w_b ?_
 refine w_e ?_
 refine g_cond_f rfl (decide_eq_false (by omega)) ?_
 refine g_skip ?_
 refine g_then ?_
 refine g_seq ?_
 refine g_any [] (fun _ => True) [] (by kernel_rfl) H0 (fun wq1 H2 => ?_)
 refine a_pure (v := .slice p l.length c) 1 rfl (wt0 rfl) rfl rfl rfl (by kernel_rfl) (by kernel_rfl) (by kernel_rfl) (.inr fun _ => trivial) (fun wx => x_move rfl rfl) ?_
 refine a_pure (v := .int .i64 ((i : Int))) 2 rfl (wt0 rfl) rfl rfl rfl (by kernel_rfl) (by kernel_rfl) (by kernel_rfl) (.inr fun _ => trivial) (fun wx => x_move rfl rfl) ?_
 refine a_pure (v := .slice p i c) 3 rfl (wt0 rfl) rfl rfl rfl (by kernel_rfl) (by kernel_rfl) (by kernel_rfl) (.inr fun _ => trivial) (fun wx => ex_cast (x_sliceH i rfl rfl rfl Tryz.underlying55 sz65 ⟨rfl, by have := hr.2.1; omega⟩) (by rw [cutP_n])) ?_
 refine a_pure (v := .slice p l.length c) 5 rfl (wt0 rfl) rfl rfl rfl (by kernel_rfl) (by kernel_rfl) (by kernel_rfl) (.inr fun _ => trivial) (fun wx => x_move rfl rfl) ?_
 refine a_pure (v := .int .i64 ((i : Int))) 6 rfl (wt0 rfl) rfl rfl rfl (by kernel_rfl) (by kernel_rfl) (by kernel_rfl) (.inr fun _ => trivial) (fun wx => x_move rfl rfl) ?_
 refine a_pure (v := .int .i64 ((i : Int) + 1)) 7 rfl (wt0 rfl) rfl rfl rfl (by kernel_rfl) (by kernel_rfl) (by kernel_rfl) (.inr fun _ => trivial) (fun wx => x_bin rfl rfl rfl (b_add (w64 (by omega)))) ?_
 refine a_pure (v := .slice (cutP p (i + 1) c 4) (l.length - (i + 1)) (c - (i + 1))) 8 rfl (wt0 rfl) rfl rfl rfl (by kernel_rfl) (by kernel_rfl) (by kernel_rfl) (.inr fun _ => trivial) (fun wx => x_cut (i + 1) rfl rfl rfl Tryz.underlying55 sz65 ⟨by omega, by omega⟩) ?_
 refine a_one (i := 0) (by kernel_rfl) rfl ?_
 refine s_buildSlice0 H2 (wt0 rfl) rfl rfl rfl Tryz.underlying55 sz65 ?_
 intro g3 wq4 H6
 have H5 : S wq4 [Rw 65 4 (some ⟨g3, 0, none⟩) 0 0 (qV []), Old w no] := H6.obRw (k := 0) (n := 0) (size := 4) rfl rfl (by decide)
 refine a_k trivial ?_
 refine a_one (i := 4) (by kernel_rfl) rfl ?_
 refine s_appendW (n := 0) (m := i) (sc := 0) (xs := qV []) (news := qV (l.take i)) (p := (some ⟨g3, 0, none⟩)) (q := p) H5 0 (wt0 rfl) rfl rfl rfl rfl rfl rfl Tryz.underlying55 inf65 rfl (by decide) (by decide) (take_reads (H5.oldReads (k := 1) rfl hr) (by omega)) (qV_one _) (by omega) ?_
 intro p7 c8 wq9 H10
 rw [Nat.zero_add] at H10 ⊢
 replace H10 : S wq9 [Rw 65 4 p7 i c8 (qV (l.take i)), Old w no] := H10
 refine a_k trivial ?_
 refine a_one (i := 9) (by kernel_rfl) rfl ?_
 refine s_appendW (n := i) (m := l.length - (i + 1)) (sc := c8) (xs := qV (l.take i)) (news := qV (l.drop (i + 1))) (p := p7) (q := cutP p (i + 1) c 4) H10 0 (wt0 rfl) rfl rfl rfl rfl rfl rfl Tryz.underlying55 inf65 rfl (by decide) (by decide) (drop_reads (H10.oldReads (k := 1) rfl hr) (by omega)) (qV_one _) (by omega) ?_
 intro p11 c12 wq13 H14
 have hel : i + (l.length - (i + 1)) = (l.eraseIdx i).length := by rw [List.length_eraseIdx_of_lt hi]; omega
 rw [← qV_app, ← List.eraseIdx_eq_take_drop_succ, hel] at H14
 rw [hel]
 replace H14 : S wq13 [Rw 65 4 p11 (l.eraseIdx i).length c12 (qV (l.eraseIdx i)), Old w no] := H14
 refine a_k trivial ?_
 refine a_pure (v := .slice p11 (l.eraseIdx i).length c12) 10 rfl (wt0 rfl) rfl rfl rfl (by kernel_rfl) (by kernel_rfl) (by kernel_rfl) (.inr fun _ => trivial) (fun wx => x_assign rfl rfl) ?_
 refine a_done (by kernel_rfl) ?_
 refine g_then ?_
 refine g_weak [(4, .slice p11 (l.eraseIdx i).length c12)] ⟨rfl, trivial⟩ ?_
 refine g_ret ?_
 refine fin_ret [.tmp 4] [.slice p11 (l.eraseIdx i).length c12] rfl ⟨rfl, trivial⟩ ?_
 exact ⟨_, _, rfl, H14⟩
end Go.Proofs.YtdkfkdekiljcoaaGreat
