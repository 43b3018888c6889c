import Derived.Test.YthfglkkjkpdkpaaKi
set_option linter.unusedSimpArgs false
set_option linter.unusedVariables false
namespace Go.Proofs.Ythfglkkjkpdkpaa
open Go.RowKit

theorem cl18 : callable Try.prog 18 = true := by kernel_rfl
theorem cl31 : callable Try.prog 31 = true := by kernel_rfl
theorem cl51 : callable Try.prog 51 = true := by kernel_rfl
theorem cl52 : callable Try.prog 52 = true := by kernel_rfl
theorem cl53 : callable Try.prog 53 = true := by kernel_rfl
theorem all_snoc {P : Nat → Prop} {m : Nat} (h : ∀ t, t < m → P t) (h1 : P m) : ∀ t, t < m + 1 → P t := fun t ht => by
  rcases Nat.lt_or_eq_of_le (Nat.le_of_lt_succ ht) with h2 | rfl
  · exact h t h2
  · exact h1
theorem mul_small {a b : Int} (ha : 0 ≤ a ∧ a ≤ 1000000000) (hb : 0 ≤ b ∧ b ≤ 200) : -9223372036854775808 ≤ a * b ∧ a * b ≤ 9223372036854775807 := by
  have h1 : a * b ≤ 1000000000 * 200 := Int.mul_le_mul ha.2 hb.2 hb.1 (by decide)
  have h2 : 0 ≤ a * b := Int.mul_nonneg ha.1 hb.1
  omega
set_option maxRecDepth 20000 in
set_option maxHeartbeats 4000000 in
set_option maxRecDepth 20000 in
set_option maxHeartbeats 4000000 in
theorem byp_s (x : Int)  (w : World) : Calls Try.prog 50 #[.int .i64 x] w fun e w' => e = .returned (.bool (decide (x < 0) || decide (1000000000 < x))) ∧ S w' [Old w no] := by
  have H0 := S.old w
  refine enter 9 Try.func50 rfl rfl rfl ?_
  refine g_weak [(0, .int .i64 x)] ⟨rfl, trivial⟩ ?_
  refine g_seq ?_
  refine g_region ?_
  refine l_of (s_val (v := .bool false) (wt0 rfl) rfl rfl (x_assign rfl rfl) ?_)
  refine g_nil ?_
  refine g_then ?_
  refine g_seq ?_
  refine g_region ?_
  refine l_of (s_val (v := .int .i64 x) (wt0 rfl) rfl rfl (x_move rfl rfl) ?_)
  refine l_of (s_val (v := .bool (decide ((x : Int) < 0))) (wt0 rfl) rfl rfl (x_bin rfl rfl rfl b_lss) ?_)
  refine l_of (s_val (v := .bool (decide ((x : Int) < 0))) (wt0 rfl) rfl rfl (x_move rfl rfl) ?_)
  by_cases hb1 : (x : Int) < 0
  · skip
    refine l_of (s_not (wn1 rfl rfl rfl rfl (decide_eq_true hb1)) rfl rfl ?_)
    refine l_of (s_not (wn1 rfl rfl rfl rfl (decide_eq_true hb1)) rfl rfl ?_)
    refine l_of (s_val (v := .bool true) (wt0 rfl) rfl rfl (x_pick_t rfl rfl (decide_eq_true hb1) rfl) ?_)
    refine l_of (s_val (v := .bool true) (wt0 rfl) rfl rfl (x_assign rfl rfl) ?_)
    refine g_nil ?_
    refine g_then ?_
    refine g_ret ?_
    refine fin_ret [.tmp 2] [.bool true] rfl ⟨rfl, trivial⟩ ?_
    exact ⟨by simp [hb1, tupled], H0.mask [true]⟩
  · skip
    refine l_of (s_val (v := .int .i64 x) (wt1 rfl rfl rfl rfl (decide_eq_false hb1)) rfl rfl (x_move rfl rfl) ?_)
    refine l_of (s_val (v := .bool (decide ((1000000000 : Int) < x))) (wt1 rfl rfl rfl rfl (decide_eq_false hb1)) rfl rfl (x_bin rfl rfl rfl b_gtr) ?_)
    refine l_of (s_val (v := .bool (decide ((1000000000 : Int) < x))) (wt0 rfl) rfl rfl (x_pick_f rfl rfl (decide_eq_false hb1) rfl) ?_)
    refine l_of (s_val (v := .bool (decide ((1000000000 : Int) < x))) (wt0 rfl) rfl rfl (x_assign rfl rfl) ?_)
    refine g_nil ?_
    refine g_then ?_
    refine g_ret ?_
    refine fin_ret [.tmp 2] [.bool (decide ((1000000000 : Int) < x))] rfl ⟨rfl, trivial⟩ ?_
    exact ⟨by simp [hb1, tupled], H0.mask [true]⟩
theorem byp_f : FunC Try.prog 50 #[] #[] (Big []) (fun x : Int => [.int .i64 x]) (fun x => .bool ((fun x : Int => decide (x < 0) || decide (1000000000 < x)) x)) (fun _ => True) :=
  FunC.pure (by kernel_rfl) fun x _ w => byp_s x w
theorem byp_no {l : List Int} (h : ∀ x ∈ l, 0 ≤ x ∧ x ≤ 1000000000) : l.any (fun x : Int => decide (x < 0) || decide (1000000000 < x)) = false := by
  rw [List.any_eq_false]
  intro x hx
  have := h x hx
  simp; omega
set_option maxRecDepth 20000 in
set_option maxHeartbeats 4000000 in
set_option maxRecDepth 20000 in
set_option maxHeartbeats 4000000 in
theorem values_s (q : Option Addr) (k d : Nat)  (w : World) : Calls Try.prog 52 #[.slice q k d] w fun e w' => ∃ b, e = .returned (.func (.func 73) #[] #[.pointer (some ⟨b, 0, none⟩)]) ∧ S w' ([Ob b (.cells #[.slice q k d] 23 (0, 0))] ++ [Old w no]) := by
  have H0 := S.old w
  refine enter 4 Try.func52 rfl rfl rfl ?_
  refine g_weak [(0, .slice q k d)] ⟨rfl, trivial⟩ ?_
  refine g_seq ?_
  refine g_region ?_
  refine l_of (s_box H0 (wt0 rfl) rfl rfl rfl rfl ?_)
  intro g1 wq2 H3
  refine l_of (s_val (v := .nilFunc) (wt0 rfl) rfl rfl (x_assign rfl rfl) ?_)
  refine g_nil ?_
  refine g_then ?_
  refine g_seq ?_
  refine g_region ?_
  refine l_of (s_val (v := .func (.func 73) #[] #[.pointer (some ⟨g1, 0, none⟩)]) (wt0 rfl) rfl rfl (x_makeFunc rfl rfl rfl) ?_)
  refine l_of (s_val (v := .func (.func 73) #[] #[.pointer (some ⟨g1, 0, none⟩)]) (wt0 rfl) rfl rfl (x_assign rfl rfl) ?_)
  refine g_nil ?_
  refine g_then ?_
  refine g_ret ?_
  refine fin_ret [.tmp 2] [.func (.func 73) #[] #[.pointer (some ⟨g1, 0, none⟩)]] rfl ⟨rfl, trivial⟩ ?_
  exact ⟨_, rfl, H3⟩
set_option maxRecDepth 20000 in
set_option maxHeartbeats 4000000 in
set_option maxRecDepth 20000 in
set_option maxHeartbeats 4000000 in
theorem by_choke (l : List Int) (q : Option Addr) (k d : Nat) (hk2 : k ≤ 100) (rate last : Int) (hrt : 0 ≤ rate ∧ rate ≤ 1000000000) (hls : 0 ≤ last ∧ last ≤ 1000000000) (hll : ∀ x ∈ l, 0 ≤ x ∧ x ≤ 1000000000)  (w : World) (hq : Reads w q k d 1 (fl intL l)) : Calls Try.prog 14 #[.slice q k d, .int .i64 rate, .int .i64 last] w fun e w' => e = .returned (.tuple #[.int .i64 (byV l rate last), .int .i64 0]) ∧ S w' [Old w no] := by
  have H0 := S.old w
  have hkm := hq.lenL intE
  have hsl := sortI_len l
  have hrl : (sortI l).reverse.length = l.length := by rw [List.length_reverse, hsl]
  have hbd : ∀ t, 0 ≤ (sortI l).getD t 0 ∧ (sortI l).getD t 0 ≤ 1000000000 := fun t => by
    by_cases ht : t < (sortI l).length
    · rw [List.getD_eq_getElem?_getD, List.getElem?_eq_getElem ht]; exact hll _ (sortI_mem.1 (List.getElem_mem ht))
    · rw [List.getD_eq_getElem?_getD, List.getElem?_eq_none (by omega)]; decide
  have hbr : ∀ t, 0 ≤ (sortI l).reverse.getD t 0 ∧ (sortI l).reverse.getD t 0 ≤ 1000000000 := fun t => by
    by_cases ht : t < (sortI l).length
    · rw [rev_getD ht]; exact hbd _
    · rw [List.getD_eq_getElem?_getD, List.getElem?_eq_none (by rw [List.length_reverse]; omega)]; decide
  refine enter 56 Try.func14 rfl rfl rfl ?_
  refine g_weak [(0, .slice q k d), (1, .int .i64 rate), (2, .int .i64 last)] ⟨rfl, rfl, rfl, trivial⟩ ?_
  refine g_seq ?_
  refine g_region ?_
  refine l_of (s_val (v := .int .i64 0) (wt0 rfl) rfl rfl (x_assign rfl rfl) ?_)
  refine l_of (s_val (v := .int .i64 0) (wt0 rfl) rfl rfl (x_assign rfl rfl) ?_)
  refine g_nil ?_
  refine g_then ?_
  refine g_seq ?_
  refine g_seq ?_
  refine g_region ?_
  refine l_of (s_val (v := .int .i64 rate) (wt0 rfl) rfl rfl (x_move rfl rfl) ?_)
  refine l_of (s_val (v := .bool (decide ((rate : Int) < 0))) (wt0 rfl) rfl rfl (x_bin rfl rfl rfl b_lss) ?_)
  refine l_of (s_val (v := .bool (decide ((rate : Int) < 0))) (wt0 rfl) rfl rfl (x_move rfl rfl) ?_)
  by_cases hb1 : (rate : Int) < 0
  · skip
    refine l_of (s_not (wn1 rfl rfl rfl rfl (decide_eq_true hb1)) rfl rfl ?_)
    refine l_of (s_not (wn1 rfl rfl rfl rfl (decide_eq_true hb1)) rfl rfl ?_)
    refine l_of (s_val (v := .bool true) (wt0 rfl) rfl rfl (x_pick_t rfl rfl (decide_eq_true hb1) rfl) ?_)
    refine l_of (s_val (v := .bool true) (wt0 rfl) rfl rfl (x_move rfl rfl) ?_)
    refine l_of (s_not (wn1 rfl rfl rfl rfl rfl) rfl rfl ?_)
    refine l_of (s_not (wn1 rfl rfl rfl rfl rfl) rfl rfl ?_)
    refine l_of (s_val (v := .bool true) (wt0 rfl) rfl rfl (x_pick_t rfl rfl rfl rfl) ?_)
    refine l_of (s_val (v := .bool true) (wt0 rfl) rfl rfl (x_move rfl rfl) ?_)
    refine l_of (s_not (wn1 rfl rfl rfl rfl rfl) rfl rfl ?_)
    refine l_of (s_not (wn1 rfl rfl rfl rfl rfl) rfl rfl ?_)
    refine l_of (s_val (v := .bool true) (wt0 rfl) rfl rfl (x_pick_t rfl rfl rfl rfl) ?_)
    refine l_of (s_val (v := .bool true) (wt0 rfl) rfl rfl (x_move rfl rfl) ?_)
    refine l_of (s_not (wn1 rfl rfl rfl rfl rfl) rfl rfl ?_)
    refine l_of (s_not (wn1 rfl rfl rfl rfl rfl) rfl rfl ?_)
    refine l_of (s_val (v := .bool true) (wt0 rfl) rfl rfl (x_pick_t rfl rfl rfl rfl) ?_)
    refine g_nil ?_
    refine g_then ?_
    refine g_weak [(0, .slice q k d), (1, .int .i64 rate), (2, .int .i64 last), (27, .bool true)] ⟨rfl, rfl, rfl, rfl, trivial⟩ ?_
    refine g_cond_t rfl rfl ?_
    refine g_seq ?_
    refine g_region ?_
    refine l_of (s_val (v := .int .i64 0) (wt0 rfl) rfl rfl (x_assign rfl rfl) ?_)
    refine l_of (s_val (v := .int .i64 7) (wt0 rfl) rfl rfl (x_assign rfl rfl) ?_)
    refine g_nil ?_
    refine g_then ?_
    refine g_ret ?_
    refine g_then_ret ?_
    refine fin_ret [.tmp 6, .tmp 7] [.int .i64 0, .int .i64 7] rfl ⟨rfl, rfl, trivial⟩ ?_
    omega
  · skip
    refine l_of (s_val (v := .int .i64 rate) (wt1 rfl rfl rfl rfl (decide_eq_false hb1)) rfl rfl (x_move rfl rfl) ?_)
    refine l_of (s_val (v := .bool (decide ((1000000000 : Int) < rate))) (wt1 rfl rfl rfl rfl (decide_eq_false hb1)) rfl rfl (x_bin rfl rfl rfl b_gtr) ?_)
    refine l_of (s_val (v := .bool (decide ((1000000000 : Int) < rate))) (wt0 rfl) rfl rfl (x_pick_f rfl rfl (decide_eq_false hb1) rfl) ?_)
    refine l_of (s_val (v := .bool (decide ((1000000000 : Int) < rate))) (wt0 rfl) rfl rfl (x_move rfl rfl) ?_)
    by_cases hb2 : (1000000000 : Int) < rate
    · skip
      refine l_of (s_not (wn1 rfl rfl rfl rfl (decide_eq_true hb2)) rfl rfl ?_)
      refine l_of (s_not (wn1 rfl rfl rfl rfl (decide_eq_true hb2)) rfl rfl ?_)
      refine l_of (s_val (v := .bool true) (wt0 rfl) rfl rfl (x_pick_t rfl rfl (decide_eq_true hb2) rfl) ?_)
      refine l_of (s_val (v := .bool true) (wt0 rfl) rfl rfl (x_move rfl rfl) ?_)
      refine l_of (s_not (wn1 rfl rfl rfl rfl rfl) rfl rfl ?_)
      refine l_of (s_not (wn1 rfl rfl rfl rfl rfl) rfl rfl ?_)
      refine l_of (s_val (v := .bool true) (wt0 rfl) rfl rfl (x_pick_t rfl rfl rfl rfl) ?_)
      refine l_of (s_val (v := .bool true) (wt0 rfl) rfl rfl (x_move rfl rfl) ?_)
      refine l_of (s_not (wn1 rfl rfl rfl rfl rfl) rfl rfl ?_)
      refine l_of (s_not (wn1 rfl rfl rfl rfl rfl) rfl rfl ?_)
      refine l_of (s_val (v := .bool true) (wt0 rfl) rfl rfl (x_pick_t rfl rfl rfl rfl) ?_)
      refine g_nil ?_
      refine g_then ?_
      refine g_weak [(0, .slice q k d), (1, .int .i64 rate), (2, .int .i64 last), (27, .bool true)] ⟨rfl, rfl, rfl, rfl, trivial⟩ ?_
      refine g_cond_t rfl rfl ?_
      refine g_seq ?_
      refine g_region ?_
      refine l_of (s_val (v := .int .i64 0) (wt0 rfl) rfl rfl (x_assign rfl rfl) ?_)
      refine l_of (s_val (v := .int .i64 7) (wt0 rfl) rfl rfl (x_assign rfl rfl) ?_)
      refine g_nil ?_
      refine g_then ?_
      refine g_ret ?_
      refine g_then_ret ?_
      refine fin_ret [.tmp 6, .tmp 7] [.int .i64 0, .int .i64 7] rfl ⟨rfl, rfl, trivial⟩ ?_
      omega
    · skip
      refine l_of (s_val (v := .int .i64 last) (wt1 rfl rfl rfl rfl (decide_eq_false hb2)) rfl rfl (x_move rfl rfl) ?_)
      refine l_of (s_val (v := .bool (decide ((last : Int) < 0))) (wt1 rfl rfl rfl rfl (decide_eq_false hb2)) rfl rfl (x_bin rfl rfl rfl b_lss) ?_)
      refine l_of (s_val (v := .bool (decide ((last : Int) < 0))) (wt0 rfl) rfl rfl (x_pick_f rfl rfl (decide_eq_false hb2) rfl) ?_)
      refine l_of (s_val (v := .bool (decide ((last : Int) < 0))) (wt0 rfl) rfl rfl (x_move rfl rfl) ?_)
      by_cases hb3 : (last : Int) < 0
      · skip
        refine l_of (s_not (wn1 rfl rfl rfl rfl (decide_eq_true hb3)) rfl rfl ?_)
        refine l_of (s_not (wn1 rfl rfl rfl rfl (decide_eq_true hb3)) rfl rfl ?_)
        refine l_of (s_val (v := .bool true) (wt0 rfl) rfl rfl (x_pick_t rfl rfl (decide_eq_true hb3) rfl) ?_)
        refine l_of (s_val (v := .bool true) (wt0 rfl) rfl rfl (x_move rfl rfl) ?_)
        refine l_of (s_not (wn1 rfl rfl rfl rfl rfl) rfl rfl ?_)
        refine l_of (s_not (wn1 rfl rfl rfl rfl rfl) rfl rfl ?_)
        refine l_of (s_val (v := .bool true) (wt0 rfl) rfl rfl (x_pick_t rfl rfl rfl rfl) ?_)
        refine g_nil ?_
        refine g_then ?_
        refine g_weak [(0, .slice q k d), (1, .int .i64 rate), (2, .int .i64 last), (27, .bool true)] ⟨rfl, rfl, rfl, rfl, trivial⟩ ?_
        refine g_cond_t rfl rfl ?_
        refine g_seq ?_
        refine g_region ?_
        refine l_of (s_val (v := .int .i64 0) (wt0 rfl) rfl rfl (x_assign rfl rfl) ?_)
        refine l_of (s_val (v := .int .i64 7) (wt0 rfl) rfl rfl (x_assign rfl rfl) ?_)
        refine g_nil ?_
        refine g_then ?_
        refine g_ret ?_
        refine g_then_ret ?_
        refine fin_ret [.tmp 6, .tmp 7] [.int .i64 0, .int .i64 7] rfl ⟨rfl, rfl, trivial⟩ ?_
        omega
      · skip
        refine l_of (s_val (v := .int .i64 last) (wt1 rfl rfl rfl rfl (decide_eq_false hb3)) rfl rfl (x_move rfl rfl) ?_)
        refine l_of (s_val (v := .bool (decide ((1000000000 : Int) < last))) (wt1 rfl rfl rfl rfl (decide_eq_false hb3)) rfl rfl (x_bin rfl rfl rfl b_gtr) ?_)
        refine l_of (s_val (v := .bool (decide ((1000000000 : Int) < last))) (wt0 rfl) rfl rfl (x_pick_f rfl rfl (decide_eq_false hb3) rfl) ?_)
        refine l_of (s_val (v := .bool (decide ((1000000000 : Int) < last))) (wt0 rfl) rfl rfl (x_move rfl rfl) ?_)
        by_cases hb4 : (1000000000 : Int) < last
        · skip
          refine l_of (s_not (wn1 rfl rfl rfl rfl (decide_eq_true hb4)) rfl rfl ?_)
          refine l_of (s_not (wn1 rfl rfl rfl rfl (decide_eq_true hb4)) rfl rfl ?_)
          refine l_of (s_val (v := .bool true) (wt0 rfl) rfl rfl (x_pick_t rfl rfl (decide_eq_true hb4) rfl) ?_)
          refine g_nil ?_
          refine g_then ?_
          refine g_weak [(0, .slice q k d), (1, .int .i64 rate), (2, .int .i64 last), (27, .bool true)] ⟨rfl, rfl, rfl, rfl, trivial⟩ ?_
          refine g_cond_t rfl rfl ?_
          refine g_seq ?_
          refine g_region ?_
          refine l_of (s_val (v := .int .i64 0) (wt0 rfl) rfl rfl (x_assign rfl rfl) ?_)
          refine l_of (s_val (v := .int .i64 7) (wt0 rfl) rfl rfl (x_assign rfl rfl) ?_)
          refine g_nil ?_
          refine g_then ?_
          refine g_ret ?_
          refine g_then_ret ?_
          refine fin_ret [.tmp 6, .tmp 7] [.int .i64 0, .int .i64 7] rfl ⟨rfl, rfl, trivial⟩ ?_
          omega
        · skip
          refine l_of (s_val (v := .slice q k d) (wt1 rfl rfl rfl rfl (decide_eq_false hb4)) rfl rfl (x_move rfl rfl) ?_)
          have H5 : S w [Big [], Old w no] := H0.addNil
          refine l_of (s_call (wt1 rfl rfl rfl rfl (decide_eq_false hb4)) (x_call' rfl rfl cl18) (contF_i l q k d (by omega) (fun x : Int => decide (x < 0) || decide (1000000000 < x)) 50 #[] #[] (Big []) (fun _ => True) byp_f (fun _ _ => trivial) _ (H5.takes [0] (by decide)) (H5.exReads (k := 1) rfl hq (fun _ _ _ h => h)) (H5.apartOld (i := 1) (k := 0) rfl rfl (by decide) hq (by decide) (fun _ _ _ h => h))) ?_)
          rintro _ wq6 ⟨rfl, H7⟩
          replace H7 : S wq6 [(Big []), Old w no] := H5.absorbI (new := [(Big [])]) [0] H7
          refine b_ret rfl rfl ?_
          refine l_of (s_val (v := .bool ((l.any (fun x : Int => decide (x < 0) || decide (1000000000 < x))))) (wt0 rfl) rfl rfl (x_pick_f rfl rfl (decide_eq_false hb4) rfl) ?_)
          refine g_nil ?_
          refine g_then ?_
          refine g_weak [(0, .slice q k d), (1, .int .i64 rate), (2, .int .i64 last), (27, .bool ((l.any (fun x : Int => decide (x < 0) || decide (1000000000 < x)))))] ⟨rfl, rfl, rfl, rfl, trivial⟩ ?_
          rcases Bool.eq_false_or_eq_true ((l.any (fun x : Int => decide (x < 0) || decide (1000000000 < x)))) with hb8 | hb8
          · skip
            refine g_cond_t rfl hb8 ?_
            refine g_seq ?_
            refine g_region ?_
            refine l_of (s_val (v := .int .i64 0) (wt0 rfl) rfl rfl (x_assign rfl rfl) ?_)
            refine l_of (s_val (v := .int .i64 7) (wt0 rfl) rfl rfl (x_assign rfl rfl) ?_)
            refine g_nil ?_
            refine g_then ?_
            refine g_ret ?_
            refine g_then_ret ?_
            refine fin_ret [.tmp 6, .tmp 7] [.int .i64 0, .int .i64 7] rfl ⟨rfl, rfl, trivial⟩ ?_
            exact absurd hb8 (by rw [byp_no hll]; decide)
          · skip
            refine g_cond_f rfl hb8 ?_
            refine g_skip ?_
            refine g_then ?_
            refine g_seq ?_
            refine g_region ?_
            refine l_of (s_val (v := .slice q k d) (wt0 rfl) rfl rfl (x_move rfl rfl) ?_)
            refine l_of (s_call (wt0 rfl) (x_call' rfl rfl cl52) (values_s q k d _) ?_)
            rintro _ wq9 ⟨bv, rfl, H10⟩
            replace H10 : S wq9 [Ob bv (.cells #[.slice q k d] 23 (0, 0)), (Big []), Old w no] := H7.absorb (new := [Ob bv (.cells #[.slice q k d] 23 (0, 0))]) H10
            have H11 : S wq9 [(Big [Ob bv (.cells #[.slice q k d] 23 (0, 0)), Old w no]), (Big [])] := S.big (L := [Ob bv (.cells #[.slice q k d] 23 (0, 0)), Old w no]) (H10.takes [0, 2, 1] (by decide))
            refine b_ret rfl rfl ?_
            refine l_of (s_call (wt0 rfl) (x_call' rfl rfl cl51) (sorted_s (Q := fun xs => xs = l) (by kernel_rfl) (fun n9 => values_it (n0 := n9) (b := bv) (l := l) (p := q) (n := k) (c := d) (Y := Old w no) (by omega) (fun w9 h9 => h9.exReads (k := 0) rfl hq (fun _ _ _ h => h))) (fun xs hx => by rw [hx]; omega) (fun pre x I hp => by have := (List.getElem?_eq_some_iff.1 hp).1; omega) _ (H11.takes [0] (by decide))) ?_)
            rintro _ wq14 ⟨L9, p12, c13, hL9, rfl, H15⟩
            rw [hL9] at H15 ⊢
            replace H15 : S wq14 [Rw 3 1 p12 ((sortI l).length) c13 (fl intL (sortI l)), (Big [Ob bv (.cells #[.slice q k d] 23 (0, 0)), Old w no]), (Big [])] := H11.absorbI (new := [Rw 3 1 p12 ((sortI l).length) c13 (fl intL (sortI l)), (Big [Ob bv (.cells #[.slice q k d] 23 (0, 0)), Old w no])]) [0] H15
            have H16 : S wq14 [Ob bv (.cells #[.slice q k d] 23 (0, 0)), Old w no, Rw 3 1 p12 ((sortI l).length) c13 (fl intL (sortI l)), (Big [])] := S.unbig (H15.takes [1, 0, 2] (by decide))
            refine b_ret rfl rfl ?_
            refine l_of (s_val (v := .slice p12 ((sortI l).length) c13) (wt0 rfl) rfl rfl (x_assign rfl rfl) ?_)
            refine g_nil ?_
            refine g_then ?_
            refine g_seq ?_
            refine g_region ?_
            refine l_of (s_val (v := .slice p12 ((sortI l).length) c13) (wt0 rfl) rfl rfl (x_move rfl rfl) ?_)
            refine l_of (s_call (wt0 rfl) (x_call' rfl rfl cl53) (rev_s (sortI l) p12 ((sortI l).length) c13 (by omega) _ (H16.takes [2] (by decide))) ?_)
            rintro _ wq17 ⟨rfl, H18⟩
            replace H18 : S wq17 [Rw 3 1 p12 ((sortI l).length) c13 (fl intL ((sortI l).reverse)), Ob bv (.cells #[.slice q k d] 23 (0, 0)), Old w no, (Big [])] := H16.absorbI (new := [Rw 3 1 p12 ((sortI l).length) c13 (fl intL ((sortI l).reverse))]) [2] H18
            refine b_ret rfl rfl ?_
            refine g_nil ?_
            refine g_then ?_
            refine g_seq ?_
            refine g_region ?_
            refine l_of (s_val (v := .int .i64 0) (wt0 rfl) rfl rfl (x_assign rfl rfl) ?_)
            refine g_nil ?_
            refine g_then ?_
            refine g_seq ?_
            refine g_block ?_
            refine g_loop (ι := Nat) (fun m9 => [(1, .int .i64 rate), (2, .int .i64 last), (8, .slice p12 ((sortI l).length) c13), (9, .int .i64 ((m9 : Int)))]) (fun m9 wx => (m9 ≤ l.length) ∧ (∀ t, t < m9 → rate * ((t : Int) + 1) ≤ 10 * (sortI l).reverse.getD t 0) ∧ S wx [Rw 3 1 p12 ((sortI l).length) c13 (fl intL ((sortI l).reverse)), Old w no]) (fun m9 => l.length - m9) (0) ⟨rfl, rfl, rfl, rfl, trivial⟩ ⟨Nat.zero_le _, (fun t ht => absurd ht (Nat.not_lt_zero _)), (H18.takes [0, 2] (by decide))⟩ ?_
            rintro m9 wq19 ⟨hm, hall, H20⟩
            replace H20 : S wq19 [Rw 3 1 p12 ((sortI l).length) c13 (fl intL ((sortI l).reverse)), Old w no] := H20
            refine g_weak [(1, .int .i64 rate), (2, .int .i64 last), (8, .slice p12 ((sortI l).length) c13), (9, .int .i64 ((m9 : Int)))] ⟨rfl, rfl, rfl, rfl, trivial⟩ ?_
            refine g_seq ?_
            refine g_seq ?_
            refine g_region ?_
            refine l_of (s_val (v := .int .i64 ((m9 : Int))) (wt0 rfl) rfl rfl (x_move rfl rfl) ?_)
            refine l_of (s_val (v := .slice p12 ((sortI l).length) c13) (wt0 rfl) rfl rfl (x_move rfl rfl) ?_)
            refine l_of (s_val (v := .int .i64 (((sortI l).length : Int))) (wt0 rfl) rfl rfl (x_lenl rfl rfl Try.underlying23) ?_)
            refine l_of (s_val (v := .bool (decide (((m9 : Int) : Int) < ((sortI l).length : Int)))) (wt0 rfl) rfl rfl (x_bin rfl rfl rfl b_lss) ?_)
            refine l_of (s_val (v := .bool (decide (((m9 : Int) : Int) < ((sortI l).length : Int)))) (wt0 rfl) rfl rfl (x_move rfl rfl) ?_)
            by_cases hb21 : ((m9 : Int) : Int) < ((sortI l).length : Int)
            · skip
              refine l_of (s_val (v := .slice p12 ((sortI l).length) c13) (wt1 rfl rfl rfl rfl (decide_eq_true hb21)) rfl rfl (x_move rfl rfl) ?_)
              refine l_of (s_val (v := .int .i64 ((m9 : Int))) (wt1 rfl rfl rfl rfl (decide_eq_true hb21)) rfl rfl (x_move rfl rfl) ?_)
              refine l_of (s_val (v := .pointer ((p12).map fun q => q.add (m9 * 1))) (wt1 rfl rfl rfl rfl (decide_eq_true hb21)) rfl rfl (x_idxR m9 (H20.rwReads (k := 0) rfl) rfl rfl rfl Try.underlying23 sz3 (by omega)) ?_)
              have hx22 : ((sortI l).reverse)[m9]? = some (((sortI l).reverse).getD m9 0) := by rw [List.getD_eq_getElem?_getD, List.getElem?_eq_getElem (by omega)]; rfl
              have hbx := hbr m9
              refine l_of (s_val (v := .int .i64 ((((sortI l).reverse).getD m9 0))) (wt1 rfl rfl rfl rfl (decide_eq_true hb21)) rfl rfl (x_loadR1 m9 (H20.rwReads (k := 0) rfl) (by omega) rfl rfl Try.underlying3 rfl (intE.flAt1 hx22 rfl)) ?_)
              refine l_of (s_val (v := .int .i64 (10 * (((sortI l).reverse).getD m9 0))) (wt1 rfl rfl rfl rfl (decide_eq_true hb21)) rfl rfl (x_bin rfl rfl rfl (b_mul (w64 (by omega)))) ?_)
              refine l_of (s_val (v := .int .i64 rate) (wt1 rfl rfl rfl rfl (decide_eq_true hb21)) rfl rfl (x_move rfl rfl) ?_)
              refine l_of (s_val (v := .int .i64 ((m9 : Int))) (wt1 rfl rfl rfl rfl (decide_eq_true hb21)) rfl rfl (x_move rfl rfl) ?_)
              refine l_of (s_val (v := .int .i64 (((m9 : Int) + 1))) (wt1 rfl rfl rfl rfl (decide_eq_true hb21)) rfl rfl (x_bin rfl rfl rfl (b_add (w64 (by omega)))) ?_)
              refine l_of (s_val (v := .int .i64 ((rate * ((m9 : Int) + 1)))) (wt1 rfl rfl rfl rfl (decide_eq_true hb21)) rfl rfl (x_bin rfl rfl rfl (b_mul (w64 (mul_small hrt ⟨by omega, by omega⟩)))) ?_)
              refine l_of (s_val (v := .bool (decide (((rate * ((m9 : Int) + 1)) : Int) ≤ 10 * (((sortI l).reverse).getD m9 0)))) (wt1 rfl rfl rfl rfl (decide_eq_true hb21)) rfl rfl (x_bin rfl rfl rfl b_geq) ?_)
              refine l_of (s_val (v := .bool (decide (((rate * ((m9 : Int) + 1)) : Int) ≤ 10 * (((sortI l).reverse).getD m9 0)))) (wt0 rfl) rfl rfl (x_pick_t rfl rfl (decide_eq_true hb21) rfl) ?_)
              refine g_nil ?_
              refine g_then ?_
              refine g_weak [(1, .int .i64 rate), (2, .int .i64 last), (8, .slice p12 ((sortI l).length) c13), (9, .int .i64 ((m9 : Int))), (48, .bool (decide (((rate * ((m9 : Int) + 1)) : Int) ≤ 10 * (((sortI l).reverse).getD m9 0))))] ⟨rfl, rfl, rfl, rfl, rfl, trivial⟩ ?_
              by_cases hb23 : ((rate * ((m9 : Int) + 1)) : Int) ≤ 10 * (((sortI l).reverse).getD m9 0)
              · skip
                refine g_cond_t rfl (decide_eq_true hb23) ?_
                refine g_skip ?_
                refine g_then ?_
                refine g_block ?_
                refine g_region ?_
                refine l_of (s_val (v := .int .i64 ((m9 : Int))) (wt0 rfl) rfl rfl (x_move rfl rfl) ?_)
                refine l_of (s_val (v := .int .i64 (((m9 + 1 : Nat) : Int))) (wt0 rfl) rfl rfl (x_bin rfl rfl rfl (b_add (by rw [w64 (by omega)]; omega))) ?_)
                refine l_of (s_val (v := .int .i64 (((m9 + 1 : Nat) : Int))) (wt0 rfl) rfl rfl (x_assign rfl rfl) ?_)
                refine g_nil ?_
                refine g_in ?_
                refine g_then ?_
                refine g_round (i := (m9)) ((m9 + 1)) ?_ ?_ ?_
                · exact ⟨rfl, rfl, rfl, rfl, trivial⟩
                · exact ⟨by omega, (all_snoc hall (by have h9 := hb23; exact h9)), (H20.takes [0, 1] (by decide))⟩
                · (try dsimp only); omega
              · skip
                refine g_cond_f rfl (decide_eq_false hb23) ?_
                refine g_exit ?_
                refine g_then_exit ?_
                refine g_then_exit ?_
                refine g_in_hit ?_
                refine g_then ?_
                refine g_seq ?_
                refine g_region ?_
                refine l_of (s_val (v := .int .i64 ((m9 : Int))) (wt0 rfl) rfl rfl (x_move rfl rfl) ?_)
                refine l_of (s_val (v := .int .i64 ((m9 : Int) + 1)) (wt0 rfl) rfl rfl (x_bin rfl rfl rfl (b_add (w64 (by omega)))) ?_)
                refine l_of (s_val (v := .int .i64 last) (wt0 rfl) rfl rfl (x_move rfl rfl) ?_)
                refine l_of (s_val (v := .int .i64 (last + 1)) (wt0 rfl) rfl rfl (x_bin rfl rfl rfl (b_add (w64 (by omega)))) ?_)
                refine l_of (s_val (v := .int .i64 (min ((m9 : Int) + 1) (last + 1))) (wt0 rfl) rfl rfl (x_min rfl rfl rfl) ?_)
                refine l_of (s_val (v := .int .i64 (min ((m9 : Int) + 1) (last + 1))) (wt0 rfl) rfl rfl (x_assign rfl rfl) ?_)
                refine l_of (s_val (v := .int .i64 0) (wt0 rfl) rfl rfl (x_assign rfl rfl) ?_)
                refine g_nil ?_
                refine g_then ?_
                refine g_ret ?_
                refine fin_ret [.tmp 6, .tmp 7] [.int .i64 (min ((m9 : Int) + 1) (last + 1)), .int .i64 0] rfl ⟨rfl, rfl, trivial⟩ ?_
                have hb : byK (sortI l).reverse rate = m9 := byK_eq hall (by omega) (fun hlt h8 => by exact absurd h8 hb23)
                exact ⟨by unfold byV; rw [hb]; rfl, H20.mask [false, true]⟩
            · skip
              refine l_of (s_not (wn1 rfl rfl rfl rfl (decide_eq_false hb21)) rfl rfl ?_)
              refine l_of (s_not (wn1 rfl rfl rfl rfl (decide_eq_false hb21)) rfl rfl ?_)
              refine l_of (s_not (wn1 rfl rfl rfl rfl (decide_eq_false hb21)) rfl rfl ?_)
              refine l_of (s_not (wn1 rfl rfl rfl rfl (decide_eq_false hb21)) rfl rfl ?_)
              refine l_of (s_not (wn1 rfl rfl rfl rfl (decide_eq_false hb21)) rfl rfl ?_)
              refine l_of (s_not (wn1 rfl rfl rfl rfl (decide_eq_false hb21)) rfl rfl ?_)
              refine l_of (s_not (wn1 rfl rfl rfl rfl (decide_eq_false hb21)) rfl rfl ?_)
              refine l_of (s_not (wn1 rfl rfl rfl rfl (decide_eq_false hb21)) rfl rfl ?_)
              refine l_of (s_not (wn1 rfl rfl rfl rfl (decide_eq_false hb21)) rfl rfl ?_)
              refine l_of (s_not (wn1 rfl rfl rfl rfl (decide_eq_false hb21)) rfl rfl ?_)
              refine l_of (s_val (v := .bool false) (wt0 rfl) rfl rfl (x_pick_f rfl rfl (decide_eq_false hb21) rfl) ?_)
              refine g_nil ?_
              refine g_then ?_
              refine g_weak [(1, .int .i64 rate), (2, .int .i64 last), (8, .slice p12 ((sortI l).length) c13), (9, .int .i64 ((m9 : Int))), (48, .bool false)] ⟨rfl, rfl, rfl, rfl, rfl, trivial⟩ ?_
              refine g_cond_f rfl rfl ?_
              refine g_exit ?_
              refine g_then_exit ?_
              refine g_then_exit ?_
              refine g_in_hit ?_
              refine g_then ?_
              refine g_seq ?_
              refine g_region ?_
              refine l_of (s_val (v := .int .i64 ((m9 : Int))) (wt0 rfl) rfl rfl (x_move rfl rfl) ?_)
              refine l_of (s_val (v := .int .i64 ((m9 : Int) + 1)) (wt0 rfl) rfl rfl (x_bin rfl rfl rfl (b_add (w64 (by omega)))) ?_)
              refine l_of (s_val (v := .int .i64 last) (wt0 rfl) rfl rfl (x_move rfl rfl) ?_)
              refine l_of (s_val (v := .int .i64 (last + 1)) (wt0 rfl) rfl rfl (x_bin rfl rfl rfl (b_add (w64 (by omega)))) ?_)
              refine l_of (s_val (v := .int .i64 (min ((m9 : Int) + 1) (last + 1))) (wt0 rfl) rfl rfl (x_min rfl rfl rfl) ?_)
              refine l_of (s_val (v := .int .i64 (min ((m9 : Int) + 1) (last + 1))) (wt0 rfl) rfl rfl (x_assign rfl rfl) ?_)
              refine l_of (s_val (v := .int .i64 0) (wt0 rfl) rfl rfl (x_assign rfl rfl) ?_)
              refine g_nil ?_
              refine g_then ?_
              refine g_ret ?_
              refine fin_ret [.tmp 6, .tmp 7] [.int .i64 (min ((m9 : Int) + 1) (last + 1)), .int .i64 0] rfl ⟨rfl, rfl, trivial⟩ ?_
              have hb : byK (sortI l).reverse rate = m9 := byK_eq hall (by omega) (fun hlt => by omega)
              exact ⟨by unfold byV; rw [hb]; rfl, H20.mask [false, true]⟩
set_option maxRecDepth 20000 in
set_option maxHeartbeats 4000000 in
set_option maxRecDepth 20000 in
set_option maxHeartbeats 4000000 in
theorem by_ref (l : List Int) (q : Option Addr) (k d : Nat) (hk2 : k ≤ 100) (rate last : Int) (hrt : 0 ≤ rate ∧ rate ≤ 1000000000) (hls : 0 ≤ last ∧ last ≤ 1000000000) (hll : ∀ x ∈ l, 0 ≤ x ∧ x ≤ 1000000000)  (w : World) (hq : Reads w q k d 1 (fl intL l)) : Calls Try.prog 15 #[.slice q k d, .int .i64 rate, .int .i64 last] w fun e w' => e = .returned (.int .i64 (byV l rate last)) ∧ S w' [Old w no] := by
  have H0 := S.old w
  have hkm := hq.lenL intE
  have hsl := sortI_len l
  have hrl : (sortI l).reverse.length = l.length := by rw [List.length_reverse, hsl]
  have hbd : ∀ t, 0 ≤ (sortI l).getD t 0 ∧ (sortI l).getD t 0 ≤ 1000000000 := fun t => by
    by_cases ht : t < (sortI l).length
    · rw [List.getD_eq_getElem?_getD, List.getElem?_eq_getElem ht]; exact hll _ (sortI_mem.1 (List.getElem_mem ht))
    · rw [List.getD_eq_getElem?_getD, List.getElem?_eq_none (by omega)]; decide
  have hbr : ∀ t, 0 ≤ (sortI l).reverse.getD t 0 ∧ (sortI l).reverse.getD t 0 ≤ 1000000000 := fun t => by
    by_cases ht : t < (sortI l).length
    · rw [rev_getD ht]; exact hbd _
    · rw [List.getD_eq_getElem?_getD, List.getElem?_eq_none (by rw [List.length_reverse]; omega)]; decide
  refine enter 41 Try.func15 rfl rfl rfl ?_
  refine g_weak [(0, .slice q k d), (1, .int .i64 rate), (2, .int .i64 last)] ⟨rfl, rfl, rfl, trivial⟩ ?_
  refine g_seq ?_
  refine g_region ?_
  refine l_of (s_val (v := .int .i64 0) (wt0 rfl) rfl rfl (x_assign rfl rfl) ?_)
  refine g_nil ?_
  refine g_then ?_
  refine g_seq ?_
  refine g_region ?_
  refine l_of (s_val (v := .slice none 0 0) (wt0 rfl) rfl rfl (x_assign rfl rfl) ?_)
  refine g_nil ?_
  refine g_then ?_
  refine g_seq ?_
  refine g_region ?_
  refine l_of (s_val (v := .slice none 0 0) (wt0 rfl) rfl rfl (x_move rfl rfl) ?_)
  refine l_of (s_val (v := .slice q k d) (wt0 rfl) rfl rfl (x_move rfl rfl) ?_)
  have H1 := H0.nilFl 3 1 intL
  have hln6a := (H1.rwReads (k := 0) rfl).lenL intE
  have hln6b := (H1.exReads (k := 1) rfl hq (fun _ _ _ h => h)).lenL intE
  have hln6 : l.length = 0 + k := by omega
  refine l_of (s_appLn (l := []) (l2 := l) intE H1 0 (wt0 rfl) rfl rfl rfl rfl rfl rfl Try.underlying23 inf3 rfl (by decide) (H1.exReads (k := 1) rfl hq (fun _ _ _ h => h)) (by omega) ?_)
  intro p2 c3 wq4 H5
  rw [List.nil_append] at H5 ⊢
  replace H5 : S wq4 [Rw 3 1 p2 l.length c3 (fl intL l), Old w no] := H5
  refine l_of (s_val (v := .slice p2 l.length c3) (wt0 rfl) rfl rfl (x_assign rfl rfl) ?_)
  refine g_nil ?_
  refine g_then ?_
  refine g_seq ?_
  refine g_region ?_
  refine l_of (s_val (v := .slice p2 l.length c3) (wt0 rfl) rfl rfl (x_move rfl rfl) ?_)
  refine l_of (s_call (wt0 rfl) (x_call' rfl rfl cl31) (asc_r l p2 l.length c3 (by omega) _ (H5.takes [0] (by decide))) ?_)
  rintro _ wq7 ⟨rfl, H8⟩
  replace H8 : S wq7 [Rw 3 1 p2 l.length c3 (fl intL (sortI l)), Old w no] := H5.absorbI (new := [Rw 3 1 p2 l.length c3 (fl intL (sortI l))]) [0] H8
  refine b_ret rfl rfl ?_
  refine l_of (s_val (v := .slice p2 l.length c3) (wt0 rfl) rfl rfl (x_assign rfl rfl) ?_)
  refine g_nil ?_
  refine g_then ?_
  refine g_seq ?_
  refine g_region ?_
  refine l_of (s_val (v := .int .i64 0) (wt0 rfl) rfl rfl (x_assign rfl rfl) ?_)
  refine g_nil ?_
  refine g_then ?_
  refine g_seq ?_
  refine g_block ?_
  refine g_loop (ι := Nat) (fun m9 => [(1, .int .i64 rate), (2, .int .i64 last), (7, .slice p2 l.length c3), (8, .int .i64 ((m9 : Int)))]) (fun m9 wx => (m9 ≤ l.length) ∧ (∀ t, t < m9 → rate * ((t : Int) + 1) ≤ 10 * (sortI l).reverse.getD t 0) ∧ S wx [Rw 3 1 p2 l.length c3 (fl intL (sortI l)), Old w no]) (fun m9 => l.length - m9) (0) ⟨rfl, rfl, rfl, rfl, trivial⟩ ⟨Nat.zero_le _, (fun t ht => absurd ht (Nat.not_lt_zero _)), (H8.takes [0, 1] (by decide))⟩ ?_
  rintro m9 wq9 ⟨hm, hall, H10⟩
  replace H10 : S wq9 [Rw 3 1 p2 l.length c3 (fl intL (sortI l)), Old w no] := H10
  refine g_weak [(1, .int .i64 rate), (2, .int .i64 last), (7, .slice p2 l.length c3), (8, .int .i64 ((m9 : Int)))] ⟨rfl, rfl, rfl, rfl, trivial⟩ ?_
  refine g_seq ?_
  refine g_seq ?_
  refine g_region ?_
  refine l_of (s_val (v := .int .i64 ((m9 : Int))) (wt0 rfl) rfl rfl (x_move rfl rfl) ?_)
  refine l_of (s_val (v := .slice p2 l.length c3) (wt0 rfl) rfl rfl (x_move rfl rfl) ?_)
  refine l_of (s_val (v := .int .i64 ((l.length : Int))) (wt0 rfl) rfl rfl (x_lenl rfl rfl Try.underlying23) ?_)
  refine l_of (s_val (v := .bool (decide (((m9 : Int) : Int) < (l.length : Int)))) (wt0 rfl) rfl rfl (x_bin rfl rfl rfl b_lss) ?_)
  refine l_of (s_val (v := .bool (decide (((m9 : Int) : Int) < (l.length : Int)))) (wt0 rfl) rfl rfl (x_move rfl rfl) ?_)
  by_cases hb11 : ((m9 : Int) : Int) < (l.length : Int)
  · skip
    refine l_of (s_val (v := .slice p2 l.length c3) (wt1 rfl rfl rfl rfl (decide_eq_true hb11)) rfl rfl (x_move rfl rfl) ?_)
    refine l_of (s_val (v := .slice p2 l.length c3) (wt1 rfl rfl rfl rfl (decide_eq_true hb11)) rfl rfl (x_move rfl rfl) ?_)
    refine l_of (s_val (v := .int .i64 ((l.length : Int))) (wt1 rfl rfl rfl rfl (decide_eq_true hb11)) rfl rfl (x_lenl rfl rfl Try.underlying23) ?_)
    refine l_of (s_val (v := .int .i64 (((l.length - 1 : Nat) : Int))) (wt1 rfl rfl rfl rfl (decide_eq_true hb11)) rfl rfl (x_bin rfl rfl rfl (b_sub (by rw [w64 (by omega)]; omega))) ?_)
    refine l_of (s_val (v := .int .i64 ((m9 : Int))) (wt1 rfl rfl rfl rfl (decide_eq_true hb11)) rfl rfl (x_move rfl rfl) ?_)
    refine l_of (s_val (v := .int .i64 (((l.length - 1 - m9 : Nat) : Int))) (wt1 rfl rfl rfl rfl (decide_eq_true hb11)) rfl rfl (x_bin rfl rfl rfl (b_sub (by rw [w64 (by omega)]; omega))) ?_)
    refine l_of (s_val (v := .pointer ((p2).map fun q => q.add ((l.length - 1 - m9) * 1))) (wt1 rfl rfl rfl rfl (decide_eq_true hb11)) rfl rfl (x_idxR (l.length - 1 - m9) (H10.rwReads (k := 0) rfl) rfl rfl rfl Try.underlying23 sz3 (by omega)) ?_)
    have hx12 : (sortI l)[(l.length - 1 - m9)]? = some ((sortI l).getD (l.length - 1 - m9) 0) := by rw [List.getD_eq_getElem?_getD, List.getElem?_eq_getElem (by omega)]; rfl
    have hbx := hbd (l.length - 1 - m9)
    refine l_of (s_val (v := .int .i64 (((sortI l).getD (l.length - 1 - m9) 0))) (wt1 rfl rfl rfl rfl (decide_eq_true hb11)) rfl rfl (x_loadR1 (l.length - 1 - m9) (H10.rwReads (k := 0) rfl) (by omega) rfl rfl Try.underlying3 rfl (intE.flAt1 hx12 rfl)) ?_)
    refine l_of (s_val (v := .int .i64 (10 * ((sortI l).getD (l.length - 1 - m9) 0))) (wt1 rfl rfl rfl rfl (decide_eq_true hb11)) rfl rfl (x_bin rfl rfl rfl (b_mul (w64 (by omega)))) ?_)
    refine l_of (s_val (v := .int .i64 rate) (wt1 rfl rfl rfl rfl (decide_eq_true hb11)) rfl rfl (x_move rfl rfl) ?_)
    refine l_of (s_val (v := .int .i64 ((m9 : Int))) (wt1 rfl rfl rfl rfl (decide_eq_true hb11)) rfl rfl (x_move rfl rfl) ?_)
    refine l_of (s_val (v := .int .i64 (((m9 : Int) + 1))) (wt1 rfl rfl rfl rfl (decide_eq_true hb11)) rfl rfl (x_bin rfl rfl rfl (b_add (w64 (by omega)))) ?_)
    refine l_of (s_val (v := .int .i64 ((rate * ((m9 : Int) + 1)))) (wt1 rfl rfl rfl rfl (decide_eq_true hb11)) rfl rfl (x_bin rfl rfl rfl (b_mul (w64 (mul_small hrt ⟨by omega, by omega⟩)))) ?_)
    refine l_of (s_val (v := .bool (decide (((rate * ((m9 : Int) + 1)) : Int) ≤ 10 * ((sortI l).getD (l.length - 1 - m9) 0)))) (wt1 rfl rfl rfl rfl (decide_eq_true hb11)) rfl rfl (x_bin rfl rfl rfl b_geq) ?_)
    refine l_of (s_val (v := .bool (decide (((rate * ((m9 : Int) + 1)) : Int) ≤ 10 * ((sortI l).getD (l.length - 1 - m9) 0)))) (wt0 rfl) rfl rfl (x_pick_t rfl rfl (decide_eq_true hb11) rfl) ?_)
    refine g_nil ?_
    refine g_then ?_
    refine g_weak [(1, .int .i64 rate), (2, .int .i64 last), (7, .slice p2 l.length c3), (8, .int .i64 ((m9 : Int))), (33, .bool (decide (((rate * ((m9 : Int) + 1)) : Int) ≤ 10 * ((sortI l).getD (l.length - 1 - m9) 0))))] ⟨rfl, rfl, rfl, rfl, rfl, trivial⟩ ?_
    by_cases hb13 : ((rate * ((m9 : Int) + 1)) : Int) ≤ 10 * ((sortI l).getD (l.length - 1 - m9) 0)
    · skip
      refine g_cond_t rfl (decide_eq_true hb13) ?_
      refine g_skip ?_
      refine g_then ?_
      refine g_block ?_
      refine g_region ?_
      refine l_of (s_val (v := .int .i64 ((m9 : Int))) (wt0 rfl) rfl rfl (x_move rfl rfl) ?_)
      refine l_of (s_val (v := .int .i64 (((m9 + 1 : Nat) : Int))) (wt0 rfl) rfl rfl (x_bin rfl rfl rfl (b_add (by rw [w64 (by omega)]; omega))) ?_)
      refine l_of (s_val (v := .int .i64 (((m9 + 1 : Nat) : Int))) (wt0 rfl) rfl rfl (x_assign rfl rfl) ?_)
      refine g_nil ?_
      refine g_in ?_
      refine g_then ?_
      refine g_round (i := (m9)) ((m9 + 1)) ?_ ?_ ?_
      · exact ⟨rfl, rfl, rfl, rfl, trivial⟩
      · exact ⟨by omega, (all_snoc hall (by have h9 := hb13; rw [rev_getD (by omega), hsl]; exact h9)), (H10.takes [0, 1] (by decide))⟩
      · (try dsimp only); omega
    · skip
      refine g_cond_f rfl (decide_eq_false hb13) ?_
      refine g_exit ?_
      refine g_then_exit ?_
      refine g_then_exit ?_
      refine g_in_hit ?_
      refine g_then ?_
      refine g_seq ?_
      refine g_region ?_
      refine l_of (s_val (v := .int .i64 ((m9 : Int))) (wt0 rfl) rfl rfl (x_move rfl rfl) ?_)
      refine l_of (s_val (v := .int .i64 ((m9 : Int) + 1)) (wt0 rfl) rfl rfl (x_bin rfl rfl rfl (b_add (w64 (by omega)))) ?_)
      refine l_of (s_val (v := .int .i64 last) (wt0 rfl) rfl rfl (x_move rfl rfl) ?_)
      refine l_of (s_val (v := .int .i64 (last + 1)) (wt0 rfl) rfl rfl (x_bin rfl rfl rfl (b_add (w64 (by omega)))) ?_)
      refine l_of (s_val (v := .int .i64 (min ((m9 : Int) + 1) (last + 1))) (wt0 rfl) rfl rfl (x_min rfl rfl rfl) ?_)
      refine l_of (s_val (v := .int .i64 (min ((m9 : Int) + 1) (last + 1))) (wt0 rfl) rfl rfl (x_assign rfl rfl) ?_)
      refine g_nil ?_
      refine g_then ?_
      refine g_ret ?_
      refine fin_ret [.tmp 6] [.int .i64 (min ((m9 : Int) + 1) (last + 1))] rfl ⟨rfl, trivial⟩ ?_
      have hb : byK (sortI l).reverse rate = m9 := byK_eq hall (by omega) (fun hlt h8 => by rw [rev_getD (by omega), hsl] at h8; exact absurd h8 hb13)
      exact ⟨by unfold byV; rw [hb]; rfl, H10.mask [false, true]⟩
  · skip
    refine l_of (s_not (wn1 rfl rfl rfl rfl (decide_eq_false hb11)) rfl rfl ?_)
    refine l_of (s_not (wn1 rfl rfl rfl rfl (decide_eq_false hb11)) rfl rfl ?_)
    refine l_of (s_not (wn1 rfl rfl rfl rfl (decide_eq_false hb11)) rfl rfl ?_)
    refine l_of (s_not (wn1 rfl rfl rfl rfl (decide_eq_false hb11)) rfl rfl ?_)
    refine l_of (s_not (wn1 rfl rfl rfl rfl (decide_eq_false hb11)) rfl rfl ?_)
    refine l_of (s_not (wn1 rfl rfl rfl rfl (decide_eq_false hb11)) rfl rfl ?_)
    refine l_of (s_not (wn1 rfl rfl rfl rfl (decide_eq_false hb11)) rfl rfl ?_)
    refine l_of (s_not (wn1 rfl rfl rfl rfl (decide_eq_false hb11)) rfl rfl ?_)
    refine l_of (s_not (wn1 rfl rfl rfl rfl (decide_eq_false hb11)) rfl rfl ?_)
    refine l_of (s_not (wn1 rfl rfl rfl rfl (decide_eq_false hb11)) rfl rfl ?_)
    refine l_of (s_not (wn1 rfl rfl rfl rfl (decide_eq_false hb11)) rfl rfl ?_)
    refine l_of (s_not (wn1 rfl rfl rfl rfl (decide_eq_false hb11)) rfl rfl ?_)
    refine l_of (s_not (wn1 rfl rfl rfl rfl (decide_eq_false hb11)) rfl rfl ?_)
    refine l_of (s_not (wn1 rfl rfl rfl rfl (decide_eq_false hb11)) rfl rfl ?_)
    refine l_of (s_val (v := .bool false) (wt0 rfl) rfl rfl (x_pick_f rfl rfl (decide_eq_false hb11) rfl) ?_)
    refine g_nil ?_
    refine g_then ?_
    refine g_weak [(1, .int .i64 rate), (2, .int .i64 last), (7, .slice p2 l.length c3), (8, .int .i64 ((m9 : Int))), (33, .bool false)] ⟨rfl, rfl, rfl, rfl, rfl, trivial⟩ ?_
    refine g_cond_f rfl rfl ?_
    refine g_exit ?_
    refine g_then_exit ?_
    refine g_then_exit ?_
    refine g_in_hit ?_
    refine g_then ?_
    refine g_seq ?_
    refine g_region ?_
    refine l_of (s_val (v := .int .i64 ((m9 : Int))) (wt0 rfl) rfl rfl (x_move rfl rfl) ?_)
    refine l_of (s_val (v := .int .i64 ((m9 : Int) + 1)) (wt0 rfl) rfl rfl (x_bin rfl rfl rfl (b_add (w64 (by omega)))) ?_)
    refine l_of (s_val (v := .int .i64 last) (wt0 rfl) rfl rfl (x_move rfl rfl) ?_)
    refine l_of (s_val (v := .int .i64 (last + 1)) (wt0 rfl) rfl rfl (x_bin rfl rfl rfl (b_add (w64 (by omega)))) ?_)
    refine l_of (s_val (v := .int .i64 (min ((m9 : Int) + 1) (last + 1))) (wt0 rfl) rfl rfl (x_min rfl rfl rfl) ?_)
    refine l_of (s_val (v := .int .i64 (min ((m9 : Int) + 1) (last + 1))) (wt0 rfl) rfl rfl (x_assign rfl rfl) ?_)
    refine g_nil ?_
    refine g_then ?_
    refine g_ret ?_
    refine fin_ret [.tmp 6] [.int .i64 (min ((m9 : Int) + 1) (last + 1))] rfl ⟨rfl, trivial⟩ ?_
    have hb : byK (sortI l).reverse rate = m9 := byK_eq hall (by omega) (fun hlt => by omega)
    exact ⟨by unfold byV; rw [hb]; rfl, H10.mask [false, true]⟩
end Go.Proofs.Ythfglkkjkpdkpaa
