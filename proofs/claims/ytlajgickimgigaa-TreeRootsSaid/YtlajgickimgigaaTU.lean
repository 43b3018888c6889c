import Derived.Test.YtlajgickimgigaaTT
set_option linter.unusedSimpArgs false
set_option linter.unusedVariables false
namespace Go.Proofs.Ytlajgickimgigaa
open Go.RowKit

theorem cl93 : callable Try.prog 93 = true := by kernel_rfl
def nodeOk (h : Nat) (v i : Int) : Bool := decide (0 ≤ v) && decide (v ≤ (h : Int)) && decide (0 ≤ i) && decide (i < ((2 ^ (h - v.toNat) : Nat) : Int))
theorem nodeOk_t {h : Nat} {v i : Int} (h1 : 0 ≤ v) (h2 : v ≤ (h : Int)) (h3 : 0 ≤ i) (h4 : i < ((2 ^ (h - v.toNat) : Nat) : Int)) : nodeOk h v i = true := by
  unfold nodeOk; rw [decide_eq_true h1, decide_eq_true h2, decide_eq_true h3, decide_eq_true h4]; rfl
theorem nodeOk_s {h : Nat} {v i : Int} (h1 : nodeOk h v i = true) : 0 ≤ v ∧ v ≤ (h : Int) ∧ 0 ≤ i ∧ i < ((2 ^ (h - v.toNat) : Nat) : Int) := by
  unfold nodeOk at h1
  simp only [Bool.and_eq_true, decide_eq_true_eq] at h1
  exact ⟨h1.1.1.1, h1.1.1.2, h1.1.2, h1.2⟩
theorem nodeOk_f {h : Nat} {v i : Int} (h1 : v < 0 ∨ (h : Int) < v ∨ i < 0 ∨ ((2 ^ (h - v.toNat) : Nat) : Int) ≤ i) : nodeOk h v i = false := by
  cases hn : nodeOk h v i with
  | false => rfl
  | true => obtain ⟨a, b, c, d⟩ := nodeOk_s hn; omega
def nodeV (h : Nat) (v i : Int) : Ending := if nodeOk h v i = true then .returned (.tuple #[]) else .panicked [{ v := .iface 113 (.int .i64 7), recovered := false }]
theorem width_i (n : Int) (h : Nat) (v : Int) (h0 : 0 ≤ v) (hv : v ≤ (h : Int)) (hh : h ≤ 60) (w : World) : Calls Try.prog 93 #[.agg #[.int .i64 n, .int .i64 (h : Int)], .int .i64 v] w fun e w' => e = .returned (.int .i64 ((2 ^ (h - v.toNat) : Nat) : Int)) ∧ S w' [Old w no] := by
  have e : v = (v.toNat : Int) := by omega
  have := width_s n h v.toNat (by omega) hh w
  rw [← e] at this; exact this
set_option maxRecDepth 20000 in
set_option maxHeartbeats 4000000 in
theorem fnode_s (n : Int) (h : Nat) (v i : Int) (hh : h ≤ 60) (w : World) : Calls Try.prog 69 #[.agg #[.int .i64 n, .int .i64 ((h : Int))], .int .i64 v, .int .i64 i] w fun e w' => e = nodeV h v i ∧ S w' [Old w no] := by
  have H0 := S.old w
  refine enter 19 Try.func69 rfl rfl rfl ?_
  refine g_weak [(0, .agg #[.int .i64 n, .int .i64 ((h : Int))]), (1, .int .i64 v), (2, .int .i64 i)] ⟨rfl, rfl, rfl, trivial⟩ ?_
  refine g_seq ?_
  refine g_region ?_
  refine l_of (s_box H0 (wt0 rfl) rfl rfl rfl rfl ?_)
  intro g1 wq2 H3
  refine g_nil ?_
  refine g_then ?_
  refine g_seq ?_
  refine g_region ?_
  refine l_of (s_val (v := .agg #[.int .i64 n, .int .i64 ((h : Int))]) (wt0 rfl) rfl rfl (x_loadA H3 0 rfl rfl Try.underlying66 rfl sz66 rfl rfl rfl) ?_)
  refine l_of (s_val (v := .int .i64 v) (wt0 rfl) rfl rfl (x_move rfl rfl) ?_)
  by_cases hb4 : (v : Int) < 0
  · skip
    refine l_of (s_call (wt0 rfl) (x_call' rfl rfl cl49) (level_p1 _ _ _ (of_decide_eq_true (decide_eq_true hb4)) _) ?_)
    rintro _ wq5 ⟨rfl, H6⟩
    replace H6 : S wq5 [Ob g1 (.cells #[.int .i64 n, .int .i64 ((h : Int))] 66 (0, 0)), Old w no] := H3.absorb (new := []) H6
    refine b_panic ?_
    refine g_then_panic ?_
    refine fin_panic ?_
    exact ⟨by unfold nodeV; rw [if_neg (by rw [nodeOk_f (by omega)]; exact Bool.false_ne_true)], H6.mask [false, true]⟩
  · skip
    by_cases hb7 : ((h : Int) : Int) < v
    · skip
      refine l_of (s_call (wt0 rfl) (x_call' rfl rfl cl49) (level_p2 _ _ _ (of_decide_eq_false (decide_eq_false hb4)) (of_decide_eq_true (decide_eq_true hb7)) _) ?_)
      rintro _ wq8 ⟨rfl, H9⟩
      replace H9 : S wq8 [Ob g1 (.cells #[.int .i64 n, .int .i64 ((h : Int))] 66 (0, 0)), Old w no] := H3.absorb (new := []) H9
      refine b_panic ?_
      refine g_then_panic ?_
      refine fin_panic ?_
      exact ⟨by unfold nodeV; rw [if_neg (by rw [nodeOk_f (by omega)]; exact Bool.false_ne_true)], H9.mask [false, true]⟩
    · skip
      refine l_of (s_call (wt0 rfl) (x_call' rfl rfl cl49) (level_r _ _ _ (of_decide_eq_false (decide_eq_false hb4)) (of_decide_eq_false (decide_eq_false hb7)) _) ?_)
      rintro _ wq10 ⟨rfl, H11⟩
      replace H11 : S wq10 [Ob g1 (.cells #[.int .i64 n, .int .i64 ((h : Int))] 66 (0, 0)), Old w no] := H3.absorb (new := []) H11
      refine b_ret rfl rfl ?_
      refine g_nil ?_
      refine g_then ?_
      refine g_region ?_
      refine l_of (s_val (v := .int .i64 i) (wt0 rfl) rfl rfl (x_move rfl rfl) ?_)
      refine l_of (s_val (v := .bool (decide ((i : Int) < 0))) (wt0 rfl) rfl rfl (x_bin rfl rfl rfl b_lss) ?_)
      refine l_of (s_val (v := .bool (decide ((i : Int) < 0))) (wt0 rfl) rfl rfl (x_move rfl rfl) ?_)
      by_cases hb12 : (i : Int) < 0
      · skip
        refine l_of (s_not (wn1 rfl rfl rfl rfl (decide_eq_true hb12)) rfl rfl ?_)
        refine l_of (s_not (wn1 rfl rfl rfl rfl (decide_eq_true hb12)) rfl rfl ?_)
        refine l_of (s_not (wn1 rfl rfl rfl rfl (decide_eq_true hb12)) rfl rfl ?_)
        refine l_of (s_not (wn1 rfl rfl rfl rfl (decide_eq_true hb12)) rfl rfl ?_)
        refine l_of (s_not (wn1 rfl rfl rfl rfl (decide_eq_true hb12)) rfl rfl ?_)
        refine l_of (s_val (v := .bool true) (wt0 rfl) rfl rfl (x_pick_t rfl rfl (decide_eq_true hb12) rfl) ?_)
        refine l_of (s_call (wt0 rfl) (x_call' rfl rfl cl46) (fail_p _ _ rfl _) ?_)
        rintro _ wq13 ⟨rfl, H14⟩
        replace H14 : S wq13 [Ob g1 (.cells #[.int .i64 n, .int .i64 ((h : Int))] 66 (0, 0)), Old w no] := H11.absorb (new := []) H14
        refine b_panic ?_
        refine fin_panic ?_
        exact ⟨by unfold nodeV; rw [if_neg (by rw [nodeOk_f (by omega)]; exact Bool.false_ne_true)], H14.mask [false, true]⟩
      · skip
        refine l_of (s_val (v := .int .i64 i) (wt1 rfl rfl rfl rfl (decide_eq_false hb12)) rfl rfl (x_move rfl rfl) ?_)
        refine l_of (s_val (v := .agg #[.int .i64 n, .int .i64 ((h : Int))]) (wt1 rfl rfl rfl rfl (decide_eq_false hb12)) rfl rfl (x_loadA H11 0 rfl rfl Try.underlying66 rfl sz66 rfl rfl rfl) ?_)
        refine l_of (s_val (v := .int .i64 v) (wt1 rfl rfl rfl rfl (decide_eq_false hb12)) rfl rfl (x_move rfl rfl) ?_)
        refine l_of (s_call (wt1 rfl rfl rfl rfl (decide_eq_false hb12)) (x_call' rfl rfl cl93) (width_i _ _ _ (by omega) (by omega) hh _) ?_)
        rintro _ wq15 ⟨rfl, H16⟩
        replace H16 : S wq15 [Ob g1 (.cells #[.int .i64 n, .int .i64 ((h : Int))] 66 (0, 0)), Old w no] := H11.absorb (new := []) H16
        refine b_ret rfl rfl ?_
        refine l_of (s_val (v := .bool (decide ((((2 ^ (h - v.toNat) : Nat) : Int) : Int) ≤ i))) (wt1 rfl rfl rfl rfl (decide_eq_false hb12)) rfl rfl (x_bin rfl rfl rfl b_geq) ?_)
        refine l_of (s_val (v := .bool (decide ((((2 ^ (h - v.toNat) : Nat) : Int) : Int) ≤ i))) (wt0 rfl) rfl rfl (x_pick_f rfl rfl (decide_eq_false hb12) rfl) ?_)
        by_cases hb17 : (((2 ^ (h - v.toNat) : Nat) : Int) : Int) ≤ i
        · skip
          refine l_of (s_call (wt0 rfl) (x_call' rfl rfl cl46) (fail_p _ _ (decide_eq_true hb17) _) ?_)
          rintro _ wq18 ⟨rfl, H19⟩
          replace H19 : S wq18 [Ob g1 (.cells #[.int .i64 n, .int .i64 ((h : Int))] 66 (0, 0)), Old w no] := H16.absorb (new := []) H19
          refine b_panic ?_
          refine fin_panic ?_
          exact ⟨by unfold nodeV; rw [if_neg (by rw [nodeOk_f (by omega)]; exact Bool.false_ne_true)], H19.mask [false, true]⟩
        · skip
          refine l_of (s_call (wt0 rfl) (x_call' rfl rfl cl46) (fail_r _ _ (decide_eq_false hb17) _) ?_)
          rintro _ wq20 ⟨rfl, H21⟩
          replace H21 : S wq20 [Ob g1 (.cells #[.int .i64 n, .int .i64 ((h : Int))] 66 (0, 0)), Old w no] := H16.absorb (new := []) H21
          refine b_ret rfl rfl ?_
          refine g_nil ?_
          refine fin_end [] [] rfl trivial ?_
          exact ⟨by unfold nodeV; rw [if_pos (nodeOk_t (by omega) (by omega) (by omega) (by omega))]; rfl, H21.mask [false, true]⟩
end Go.Proofs.Ytlajgickimgigaa
