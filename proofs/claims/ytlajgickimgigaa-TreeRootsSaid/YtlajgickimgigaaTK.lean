import Derived.Test.YtlajgickimgigaaTJ
set_option linter.unusedSimpArgs false
set_option linter.unusedVariables false
namespace Go.Proofs.Ytlajgickimgigaa
open Go.RowKit

theorem cl43 : callable Try.prog 43 = true := by kernel_rfl
theorem cl44 : callable Try.prog 44 = true := by kernel_rfl
set_option maxRecDepth 20000 in
set_option maxHeartbeats 4000000 in
theorem zero_s (v : Nat) (hv : v ≤ 1000) (w : World) : Calls Try.prog 58 #[.int .i64 ((v : Int))] w fun e w' => e = .returned (.string (zeroS v)) ∧ S w' [Old w no] := by
  have H0 := S.old w
  refine enter 13 Try.func58 rfl rfl rfl ?_
  refine g_weak [(0, .int .i64 ((v : Int)))] ⟨rfl, trivial⟩ ?_
  refine g_seq ?_
  refine g_region ?_
  refine l_of (s_val (v := .string (⟨#[]⟩)) (wt0 rfl) rfl rfl (x_assign rfl rfl) ?_)
  refine g_nil ?_
  refine g_then ?_
  refine g_seq ?_
  refine g_region ?_
  refine l_of (s_call (wt0 rfl) (x_call' rfl rfl cl44) (zero_h _) ?_)
  rintro _ wq1 ⟨rfl, H2⟩
  replace H2 : S wq1 [Old w no] := H0.absorb (new := []) H2
  refine b_ret rfl rfl ?_
  refine l_of (s_val (v := .string zeroB) (wt0 rfl) rfl rfl (x_assign rfl rfl) ?_)
  refine g_nil ?_
  refine g_then ?_
  refine g_seq ?_
  refine g_seq ?_
  refine g_region ?_
  refine l_of (s_val (v := .int .i64 ((v : Int))) (wt0 rfl) rfl rfl (x_move rfl rfl) ?_)
  refine l_of (s_val (v := .int .i64 0) (wt0 rfl) rfl rfl (x_move rfl rfl) ?_)
  refine g_nil ?_
  refine g_then ?_
  refine g_block ?_
  refine g_loop (ι := Nat) (fun i => [(3, .string ((zeroS i))), (5, .int .i64 ((v : Int))), (6, .int .i64 ((i : Int)))]) (fun i wx => (i ≤ v) ∧ S wx [Old w no]) (fun i => v - i) (0) ⟨rfl, rfl, rfl, trivial⟩ ⟨Nat.zero_le _, H2⟩ ?_
  rintro i wq3 ⟨hi, H4⟩
  replace H4 : S wq3 [Old w no] := H4
  refine g_weak [(3, .string ((zeroS i))), (5, .int .i64 ((v : Int))), (6, .int .i64 ((i : Int)))] ⟨rfl, rfl, rfl, trivial⟩ ?_
  have hz := zeroS_size i
  refine g_seq ?_
  refine g_region ?_
  refine l_of (s_val (v := .bool (decide (((i : Int) : Int) < (v : Int)))) (wt0 rfl) rfl rfl (x_bin rfl rfl rfl b_lss) ?_)
  refine g_nil ?_
  refine g_then ?_
  refine g_seq ?_
  by_cases hb5 : ((i : Int) : Int) < (v : Int)
  · skip
    refine g_cond_t rfl (decide_eq_true hb5) ?_
    refine g_skip ?_
    refine g_then ?_
    refine g_seq ?_
    refine g_block ?_
    refine g_region ?_
    refine l_of (s_val (v := .string ((zeroS i))) (wt0 rfl) rfl rfl (x_move rfl rfl) ?_)
    refine l_of (s_val (v := .string ((zeroS i))) (wt0 rfl) rfl rfl (x_move rfl rfl) ?_)
    refine l_of (s_call (wt0 rfl) (x_call' rfl rfl cl43) (pair_h _ _ (by omega) _) ?_)
    rintro _ wq6 ⟨rfl, H7⟩
    replace H7 : S wq6 [Old w no] := H4.absorb (new := []) H7
    refine b_ret rfl rfl ?_
    refine l_of (s_val (v := .string ((pairS (zeroS i) (zeroS i)))) (wt0 rfl) rfl rfl (x_assign rfl rfl) ?_)
    refine g_nil ?_
    refine g_in ?_
    refine g_then ?_
    refine g_region ?_
    refine l_of (s_val (v := .int .i64 ((i : Int) + 1)) (wt0 rfl) rfl rfl (x_bin rfl rfl rfl (b_add (w64 (by omega)))) ?_)
    refine l_of (s_val (v := .int .i64 ((i : Int) + 1)) (wt0 rfl) rfl rfl (x_move rfl rfl) ?_)
    refine g_nil ?_
    refine g_then ?_
    refine g_round (i := (i)) (i + 1) ?_ ?_ ?_
    · exact ⟨rfl, rfl, rfl, trivial⟩
    · exact ⟨by omega, H7⟩
    · (try dsimp only); omega
  · skip
    refine g_cond_f rfl (decide_eq_false hb5) ?_
    refine g_exit ?_
    refine g_then_exit ?_
    refine g_then_exit ?_
    refine g_in_hit ?_
    refine g_then ?_
    refine g_seq ?_
    refine g_region ?_
    refine l_of (s_val (v := .string ((zeroS i))) (wt0 rfl) rfl rfl (x_move rfl rfl) ?_)
    refine l_of (s_val (v := .string ((zeroS i))) (wt0 rfl) rfl rfl (x_assign rfl rfl) ?_)
    refine g_nil ?_
    refine g_then ?_
    refine g_ret ?_
    refine fin_ret [.tmp 2] [.string ((zeroS i))] rfl ⟨rfl, trivial⟩ ?_
    have hiv : i = v := by omega
    exact ⟨by rw [hiv]; rfl, H4.mask [true]⟩
set_option maxRecDepth 20000 in
set_option maxHeartbeats 4000000 in
set_option maxRecDepth 20000 in
set_option maxHeartbeats 4000000 in
theorem clone_s (l : List ByteArray) (p : Option Addr) (m c : Nat) (h1 : 0 < m) (hm : m ≤ 1099511627776) (w : World) (hr : Reads w p m c 1 (stV l)) : Calls Try.prog 87 #[.slice p m c] w fun e w' => ∃ p' c', e = .returned (.slice p' m c') ∧ S w' ([Rw 9 1 p' m c' (stV l)] ++ [Old w no]) := by
  have H0 := S.old w
  obtain ⟨a, rfl⟩ : ∃ a, p = some a := (hr.2.2 h1).imp fun _ h => h.1
  refine enter 8 Try.func87 rfl rfl rfl ?_
  refine g_weak [(0, .slice (some a) m c)] ⟨rfl, trivial⟩ ?_
  refine g_seq ?_
  refine g_region ?_
  refine l_of (s_val (v := .slice none 0 0) (wt0 rfl) rfl rfl (x_assign rfl rfl) ?_)
  refine g_nil ?_
  refine g_then ?_
  refine g_seq ?_
  refine g_seq ?_
  refine g_region ?_
  refine l_of (s_val (v := .slice (some a) m c) (wt0 rfl) rfl rfl (x_move rfl rfl) ?_)
  refine l_of (s_val (v := .bool false) (wt0 rfl) rfl rfl (x_bin rfl rfl rfl (b_eqN (r := false) Try.underlying22 rfl)) ?_)
  refine g_nil ?_
  refine g_then ?_
  refine g_cond_f rfl rfl ?_
  refine g_skip ?_
  refine g_then ?_
  refine g_seq ?_
  refine g_region ?_
  refine l_of (s_buildSlice0 H0 (wt0 rfl) rfl rfl rfl Try.underlying22 sz9 ?_)
  intro g1 wq2 H4
  have H3 : S wq2 [Rw 9 1 (some ⟨g1, 0, none⟩) 0 0 (stV []), Old w no] := H4.obRw (k := 0) (n := 0) rfl rfl (by decide)
  refine l_of (s_val (v := .slice (some a) m c) (wt0 rfl) rfl rfl (x_move rfl rfl) ?_)
  refine l_of (s_appendW (n := 0) (m := m) (sc := 0) (xs := stV []) (news := stV l) (p := (some ⟨g1, 0, none⟩)) (q := some a) H3 0 (wt0 rfl) rfl rfl rfl rfl rfl rfl Try.underlying22 inf9 rfl (by decide) (by decide) (H3.oldReads (k := 1) rfl hr) (stV_one l) (by omega) ?_)
  intro p5 c6 wq7 H8
  rw [Nat.zero_add] at H8 ⊢
  replace H8 : S wq7 [Rw 9 1 p5 m c6 (stV l), Old w no] := H8
  refine l_of (s_val (v := .slice p5 m c6) (wt0 rfl) rfl rfl (x_assign rfl rfl) ?_)
  refine g_nil ?_
  refine g_then ?_
  refine g_ret ?_
  refine fin_ret [.tmp 2] [.slice p5 m c6] rfl ⟨rfl, trivial⟩ ?_
  exact ⟨_, _, rfl, H8⟩
set_option maxRecDepth 20000 in
set_option maxHeartbeats 4000000 in
theorem levels_s (k : Int) (p : Option Addr) (n c : Nat)  (w : World) : Calls Try.prog 74 #[.int .i64 k, .slice p n c, .func (.func 43) #[] #[]] w fun e w' => ∃ b1 b2 b3, e = .returned (.func (.func 94) #[] #[.pointer (some ⟨b1, 0, none⟩), .pointer (some ⟨b2, 0, none⟩), .pointer (some ⟨b3, 0, none⟩)]) ∧ S w' ([Ob b3 (.cells #[.func (.func 43) #[] #[]] 61 (0, 0)), Ob b2 (.cells #[.slice p n c] 22 (0, 0)), Ob b1 (.cells #[.int .i64 k] 3 (0, 0))] ++ [Old w no]) := by
  have H0 := S.old w
  refine enter 8 Try.func74 rfl rfl rfl ?_
  refine g_weak [(0, .int .i64 k), (1, .slice p n c), (2, .func (.func 43) #[] #[])] ⟨rfl, rfl, rfl, trivial⟩ ?_
  refine g_seq ?_
  refine g_region ?_
  refine l_of (s_box H0 (wt0 rfl) rfl rfl rfl rfl ?_)
  intro g1 wq2 H3
  refine l_of (s_box H3 (wt0 rfl) rfl rfl rfl rfl ?_)
  intro g4 wq5 H6
  refine l_of (s_box H6 (wt0 rfl) rfl rfl rfl rfl ?_)
  intro g7 wq8 H9
  refine l_of (s_val (v := .nilFunc) (wt0 rfl) rfl rfl (x_assign rfl rfl) ?_)
  refine g_nil ?_
  refine g_then ?_
  refine g_seq ?_
  refine g_region ?_
  refine l_of (s_val (v := .func (.func 94) #[] #[.pointer (some ⟨g1, 0, none⟩), .pointer (some ⟨g4, 0, none⟩), .pointer (some ⟨g7, 0, none⟩)]) (wt0 rfl) rfl rfl (x_makeFunc rfl rfl rfl) ?_)
  refine l_of (s_val (v := .func (.func 94) #[] #[.pointer (some ⟨g1, 0, none⟩), .pointer (some ⟨g4, 0, none⟩), .pointer (some ⟨g7, 0, none⟩)]) (wt0 rfl) rfl rfl (x_assign rfl rfl) ?_)
  refine g_nil ?_
  refine g_then ?_
  refine g_ret ?_
  refine fin_ret [.tmp 6] [.func (.func 94) #[] #[.pointer (some ⟨g1, 0, none⟩), .pointer (some ⟨g4, 0, none⟩), .pointer (some ⟨g7, 0, none⟩)]] rfl ⟨rfl, trivial⟩ ?_
  exact ⟨_, _, _, rfl, H9⟩
end Go.Proofs.Ytlajgickimgigaa
