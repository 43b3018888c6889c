import Derived.Test.YthfglkkjkpdkpaaKc
import Derived.Test.YthfglkkjkpdkpaaMj
set_option linter.unusedSimpArgs false
set_option linter.unusedVariables false
namespace Go.Proofs.Ythfglkkjkpdkpaa
open Go.RowKit

theorem cl12 : callable Try.prog 12 = true := by kernel_rfl
theorem cl20 : callable Try.prog 20 = true := by kernel_rfl
theorem ze4 : zeO Try.prog 4 = some (.bool false) := by kernel_rfl
theorem FunC.pure {β : Type} {P : Program} {g : Nat} {fi ca : Array Value} {av : β → List Value} {rv : β → Value} {D : β → Prop} (hg : callable P g = true) (h : ∀ b, D b → ∀ w, Calls P g (fi.toList ++ av b ++ ca.toList).toArray w fun e w' => e = .returned (rv b) ∧ S w' [Old w no]) : FunC P g fi ca (Big []) av rv D :=
  FunC.ofBig hg fun b hb w _ => (h b hb w).mono fun e w' ⟨h1, h2⟩ => ⟨h1, by
    rw [show fps [] = no from funext fun k => propext ⟨fun ⟨it, h3, _⟩ => (List.not_mem_nil h3).elim, False.elim⟩]; exact h2⟩
set_option maxRecDepth 20000 in
set_option maxHeartbeats 4000000 in
set_option maxRecDepth 20000 in
set_option maxHeartbeats 4000000 in
theorem slots_s (r : Int)  (w : World) : Calls Try.prog 12 #[.int .i64 r] w fun e w' => e = .returned (.tuple #[.int .i64 (slotsV r).1, .int .i64 (slotsV r).2]) ∧ S w' [Old w no] := by
  have H0 := S.old w
  refine enter 22 Try.func12 rfl rfl rfl ?_
  refine g_weak [(0, .int .i64 r)] ⟨rfl, trivial⟩ ?_
  refine g_seq ?_
  refine g_region ?_
  refine l_of (s_val (v := .int .i64 0) (wt0 rfl) rfl rfl (x_assign rfl rfl) ?_)
  refine l_of (s_val (v := .int .i64 0) (wt0 rfl) rfl rfl (x_assign rfl rfl) ?_)
  refine g_nil ?_
  refine g_then ?_
  refine g_seq ?_
  refine g_block ?_
  refine g_seq ?_
  refine g_region ?_
  refine l_of (s_val (v := .int .i64 r) (wt0 rfl) rfl rfl (x_move rfl rfl) ?_)
  refine l_of (s_val (v := .bool (decide ((r : Int) < 0))) (wt0 rfl) rfl rfl (x_bin rfl rfl rfl b_lss) ?_)
  refine l_of (s_val (v := .bool (decide ((r : Int) < 0))) (wt0 rfl) rfl rfl (x_move rfl rfl) ?_)
  by_cases hb1 : (r : Int) < 0
  · skip
    refine l_of (s_not (wn1 rfl rfl rfl rfl (decide_eq_true hb1)) rfl rfl ?_)
    refine l_of (s_not (wn1 rfl rfl rfl rfl (decide_eq_true hb1)) rfl rfl ?_)
    refine l_of (s_val (v := .bool true) (wt0 rfl) rfl rfl (x_pick_t rfl rfl (decide_eq_true hb1) rfl) ?_)
    refine l_of (s_val (v := .bool true) (wt0 rfl) rfl rfl (x_assign rfl rfl) ?_)
    refine g_nil ?_
    refine g_then ?_
    refine g_cond_t rfl rfl ?_
    refine g_seq ?_
    refine g_region ?_
    refine l_of (s_val (v := .int .i64 0) (wt0 rfl) rfl rfl (x_assign rfl rfl) ?_)
    refine l_of (s_val (v := .int .i64 7) (wt0 rfl) rfl rfl (x_assign rfl rfl) ?_)
    refine g_nil ?_
    refine g_then ?_
    refine g_ret ?_
    refine g_in_ret ?_
    refine g_then_ret ?_
    refine fin_ret [.tmp 2, .tmp 3] [.int .i64 0, .int .i64 7] rfl ⟨rfl, rfl, trivial⟩ ?_
    have hv : slotsV r = (0, 7) := by
      unfold slotsV
      first | (rw [if_pos (by omega)]; done) | (rw [if_pos (by omega)]) | (rw [if_neg (by omega), if_pos (by omega)]) | (rw [if_neg (by omega), if_neg (by omega), if_pos (by omega)]) | (rw [if_neg (by omega), if_neg (by omega), if_neg (by omega)]; try rw [Int.min_comm])
    exact ⟨by rw [hv]; rfl, H0.mask [true]⟩
  · skip
    refine l_of (s_val (v := .int .i64 r) (wt1 rfl rfl rfl rfl (decide_eq_false hb1)) rfl rfl (x_move rfl rfl) ?_)
    refine l_of (s_val (v := .bool (decide ((1000000000 : Int) < r))) (wt1 rfl rfl rfl rfl (decide_eq_false hb1)) rfl rfl (x_bin rfl rfl rfl b_gtr) ?_)
    refine l_of (s_val (v := .bool (decide ((1000000000 : Int) < r))) (wt0 rfl) rfl rfl (x_pick_f rfl rfl (decide_eq_false hb1) rfl) ?_)
    refine l_of (s_val (v := .bool (decide ((1000000000 : Int) < r))) (wt0 rfl) rfl rfl (x_assign rfl rfl) ?_)
    refine g_nil ?_
    refine g_then ?_
    by_cases hb2 : (1000000000 : Int) < r
    · skip
      refine g_cond_t rfl (decide_eq_true hb2) ?_
      refine g_seq ?_
      refine g_region ?_
      refine l_of (s_val (v := .int .i64 0) (wt0 rfl) rfl rfl (x_assign rfl rfl) ?_)
      refine l_of (s_val (v := .int .i64 7) (wt0 rfl) rfl rfl (x_assign rfl rfl) ?_)
      refine g_nil ?_
      refine g_then ?_
      refine g_ret ?_
      refine g_in_ret ?_
      refine g_then_ret ?_
      refine fin_ret [.tmp 2, .tmp 3] [.int .i64 0, .int .i64 7] rfl ⟨rfl, rfl, trivial⟩ ?_
      have hv : slotsV r = (0, 7) := by
        unfold slotsV
        first | (rw [if_pos (by omega)]; done) | (rw [if_pos (by omega)]) | (rw [if_neg (by omega), if_pos (by omega)]) | (rw [if_neg (by omega), if_neg (by omega), if_pos (by omega)]) | (rw [if_neg (by omega), if_neg (by omega), if_neg (by omega)]; try rw [Int.min_comm])
      exact ⟨by rw [hv]; rfl, H0.mask [true]⟩
    · skip
      refine g_cond_f rfl (decide_eq_false hb2) ?_
      refine g_seq ?_
      refine g_region ?_
      refine l_of (s_val (v := .int .i64 r) (wt0 rfl) rfl rfl (x_move rfl rfl) ?_)
      refine l_of (s_val (v := .bool (decide ((r : Int) < 10000))) (wt0 rfl) rfl rfl (x_bin rfl rfl rfl b_lss) ?_)
      refine l_of (s_val (v := .bool (decide ((r : Int) < 10000))) (wt0 rfl) rfl rfl (x_assign rfl rfl) ?_)
      refine g_nil ?_
      refine g_then ?_
      by_cases hb3 : (r : Int) < 10000
      · skip
        refine g_cond_t rfl (decide_eq_true hb3) ?_
        refine g_seq ?_
        refine g_region ?_
        refine l_of (s_val (v := .int .i64 2) (wt0 rfl) rfl rfl (x_assign rfl rfl) ?_)
        refine l_of (s_val (v := .int .i64 0) (wt0 rfl) rfl rfl (x_assign rfl rfl) ?_)
        refine g_nil ?_
        refine g_then ?_
        refine g_ret ?_
        refine g_in_ret ?_
        refine g_then_ret ?_
        refine fin_ret [.tmp 2, .tmp 3] [.int .i64 2, .int .i64 0] rfl ⟨rfl, rfl, trivial⟩ ?_
        have hv : slotsV r = (2, 0) := by
          unfold slotsV
          first | (rw [if_pos (by omega)]; done) | (rw [if_pos (by omega)]) | (rw [if_neg (by omega), if_pos (by omega)]) | (rw [if_neg (by omega), if_neg (by omega), if_pos (by omega)]) | (rw [if_neg (by omega), if_neg (by omega), if_neg (by omega)]; try rw [Int.min_comm])
        exact ⟨by rw [hv]; rfl, H0.mask [true]⟩
      · skip
        refine g_cond_f rfl (decide_eq_false hb3) ?_
        refine g_seq ?_
        refine g_region ?_
        refine l_of (s_val (v := .int .i64 r) (wt0 rfl) rfl rfl (x_move rfl rfl) ?_)
        refine l_of (s_val (v := .bool (decide ((r : Int) < 20000))) (wt0 rfl) rfl rfl (x_bin rfl rfl rfl b_lss) ?_)
        refine l_of (s_val (v := .bool (decide ((r : Int) < 20000))) (wt0 rfl) rfl rfl (x_assign rfl rfl) ?_)
        refine g_nil ?_
        refine g_then ?_
        refine g_weak [(0, .int .i64 r), (14, .bool (decide ((r : Int) < 20000)))] ⟨rfl, rfl, trivial⟩ ?_
        by_cases hb4 : (r : Int) < 20000
        · skip
          refine g_cond_t rfl (decide_eq_true hb4) ?_
          refine g_seq ?_
          refine g_region ?_
          refine l_of (s_val (v := .int .i64 3) (wt0 rfl) rfl rfl (x_assign rfl rfl) ?_)
          refine l_of (s_val (v := .int .i64 0) (wt0 rfl) rfl rfl (x_assign rfl rfl) ?_)
          refine g_nil ?_
          refine g_then ?_
          refine g_ret ?_
          refine g_in_ret ?_
          refine g_then_ret ?_
          refine fin_ret [.tmp 2, .tmp 3] [.int .i64 3, .int .i64 0] rfl ⟨rfl, rfl, trivial⟩ ?_
          have hv : slotsV r = (3, 0) := by
            unfold slotsV
            first | (rw [if_pos (by omega)]; done) | (rw [if_pos (by omega)]) | (rw [if_neg (by omega), if_pos (by omega)]) | (rw [if_neg (by omega), if_neg (by omega), if_pos (by omega)]) | (rw [if_neg (by omega), if_neg (by omega), if_neg (by omega)]; try rw [Int.min_comm])
          exact ⟨by rw [hv]; rfl, H0.mask [true]⟩
        · skip
          refine g_cond_f rfl (decide_eq_false hb4) ?_
          refine g_skip ?_
          refine g_in ?_
          refine g_then ?_
          refine g_seq ?_
          refine g_region ?_
          refine l_of (s_val (v := .int .i64 r) (wt0 rfl) rfl rfl (x_move rfl rfl) ?_)
          refine l_of (s_val (v := .int .i64 (r - 20000)) (wt0 rfl) rfl rfl (x_bin rfl rfl rfl (b_sub (w64 (by omega)))) ?_)
          refine l_of (s_val (v := .int .i64 ((r - 20000) / 20000)) (wt0 rfl) rfl rfl (x_bin rfl rfl rfl (b_quo (by omega) (quo64 (by omega)))) ?_)
          refine l_of (s_val (v := .int .i64 (4 + ((r - 20000) / 20000))) (wt0 rfl) rfl rfl (x_bin rfl rfl rfl (b_add (w64 (by omega)))) ?_)
          refine l_of (s_val (v := .int .i64 (min (4 + ((r - 20000) / 20000)) 50)) (wt0 rfl) rfl rfl (x_min rfl rfl rfl) ?_)
          refine l_of (s_val (v := .int .i64 (min (4 + ((r - 20000) / 20000)) 50)) (wt0 rfl) rfl rfl (x_assign rfl rfl) ?_)
          refine l_of (s_val (v := .int .i64 0) (wt0 rfl) rfl rfl (x_assign rfl rfl) ?_)
          refine g_nil ?_
          refine g_then ?_
          refine g_ret ?_
          refine fin_ret [.tmp 2, .tmp 3] [.int .i64 (min (4 + ((r - 20000) / 20000)) 50), .int .i64 0] rfl ⟨rfl, rfl, trivial⟩ ?_
          have hv : slotsV r = (min (4 + ((r - 20000) / 20000)) 50, 0) := by
            unfold slotsV
            first | (rw [if_pos (by omega)]; done) | (rw [if_pos (by omega)]) | (rw [if_neg (by omega), if_pos (by omega)]) | (rw [if_neg (by omega), if_neg (by omega), if_pos (by omega)]) | (rw [if_neg (by omega), if_neg (by omega), if_neg (by omega)]; try rw [Int.min_comm])
          exact ⟨by rw [hv]; rfl, H0.mask [true]⟩
set_option maxRecDepth 20000 in
set_option maxHeartbeats 4000000 in
set_option maxRecDepth 20000 in
set_option maxHeartbeats 4000000 in
theorem slots_r (r : Int)  (w : World) : Calls Try.prog 13 #[.int .i64 r] w fun e w' => e = .returned (.tuple #[.int .i64 (slotsV r).1, .int .i64 (slotsV r).2]) ∧ S w' [Old w no] := by
  have H0 := S.old w
  refine enter 19 Try.func13 rfl rfl rfl ?_
  refine g_weak [(0, .int .i64 r)] ⟨rfl, trivial⟩ ?_
  refine g_seq ?_
  refine g_region ?_
  refine l_of (s_val (v := .int .i64 0) (wt0 rfl) rfl rfl (x_assign rfl rfl) ?_)
  refine l_of (s_val (v := .int .i64 0) (wt0 rfl) rfl rfl (x_assign rfl rfl) ?_)
  refine g_nil ?_
  refine g_then ?_
  refine g_seq ?_
  refine g_block ?_
  refine g_seq ?_
  refine g_region ?_
  refine l_of (s_val (v := .int .i64 r) (wt0 rfl) rfl rfl (x_move rfl rfl) ?_)
  refine l_of (s_call (wt0 rfl) (x_call' rfl rfl cl49) (number_r r _) ?_)
  rintro _ wq1 ⟨rfl, H2⟩
  replace H2 : S wq1 [Old w no] := H0.absorb (new := []) H2
  refine b_ret rfl rfl ?_
  refine l_of (s_val (v := .bool (!((numB r)))) (wt0 rfl) rfl rfl (x_not (b := (numB r)) rfl rfl) ?_)
  refine l_of (s_val (v := .bool (!((numB r)))) (wt0 rfl) rfl rfl (x_assign rfl rfl) ?_)
  refine g_nil ?_
  refine g_then ?_
  rcases Bool.eq_false_or_eq_true ((numB r)) with hb3 | hb3
  · skip
    have hnb : numB r = true := by simpa using hb3
    simp only [numB, Bool.and_eq_true, Bool.and_eq_false_iff, decide_eq_true_eq, decide_eq_false_iff_not] at hnb
    refine g_cond_f rfl (neg_of hb3) ?_
    refine g_seq ?_
    refine g_region ?_
    refine l_of (s_val (v := .int .i64 r) (wt0 rfl) rfl rfl (x_move rfl rfl) ?_)
    refine l_of (s_val (v := .bool (decide ((r : Int) < 10000))) (wt0 rfl) rfl rfl (x_bin rfl rfl rfl b_lss) ?_)
    refine l_of (s_val (v := .bool (decide ((r : Int) < 10000))) (wt0 rfl) rfl rfl (x_assign rfl rfl) ?_)
    refine g_nil ?_
    refine g_then ?_
    by_cases hb4 : (r : Int) < 10000
    · skip
      refine g_cond_t rfl (decide_eq_true hb4) ?_
      refine g_seq ?_
      refine g_region ?_
      refine l_of (s_val (v := .int .i64 2) (wt0 rfl) rfl rfl (x_assign rfl rfl) ?_)
      refine l_of (s_val (v := .int .i64 0) (wt0 rfl) rfl rfl (x_assign rfl rfl) ?_)
      refine g_nil ?_
      refine g_then ?_
      refine g_ret ?_
      refine g_in_ret ?_
      refine g_then_ret ?_
      refine fin_ret [.tmp 2, .tmp 3] [.int .i64 2, .int .i64 0] rfl ⟨rfl, rfl, trivial⟩ ?_
      have hv : slotsV r = (2, 0) := by
        unfold slotsV
        first | (rw [if_pos (by omega)]; done) | (rw [if_pos (by omega)]) | (rw [if_neg (by omega), if_pos (by omega)]) | (rw [if_neg (by omega), if_neg (by omega), if_pos (by omega)]) | (rw [if_neg (by omega), if_neg (by omega), if_neg (by omega)]; try rw [Int.min_comm])
      exact ⟨by rw [hv]; rfl, H2.mask [true]⟩
    · skip
      refine g_cond_f rfl (decide_eq_false hb4) ?_
      refine g_seq ?_
      refine g_region ?_
      refine l_of (s_val (v := .int .i64 r) (wt0 rfl) rfl rfl (x_move rfl rfl) ?_)
      refine l_of (s_val (v := .bool (decide ((r : Int) < 20000))) (wt0 rfl) rfl rfl (x_bin rfl rfl rfl b_lss) ?_)
      refine l_of (s_val (v := .bool (decide ((r : Int) < 20000))) (wt0 rfl) rfl rfl (x_assign rfl rfl) ?_)
      refine g_nil ?_
      refine g_then ?_
      by_cases hb5 : (r : Int) < 20000
      · skip
        refine g_cond_t rfl (decide_eq_true hb5) ?_
        refine g_seq ?_
        refine g_region ?_
        refine l_of (s_val (v := .int .i64 3) (wt0 rfl) rfl rfl (x_assign rfl rfl) ?_)
        refine l_of (s_val (v := .int .i64 0) (wt0 rfl) rfl rfl (x_assign rfl rfl) ?_)
        refine g_nil ?_
        refine g_then ?_
        refine g_ret ?_
        refine g_in_ret ?_
        refine g_then_ret ?_
        refine fin_ret [.tmp 2, .tmp 3] [.int .i64 3, .int .i64 0] rfl ⟨rfl, rfl, trivial⟩ ?_
        have hv : slotsV r = (3, 0) := by
          unfold slotsV
          first | (rw [if_pos (by omega)]; done) | (rw [if_pos (by omega)]) | (rw [if_neg (by omega), if_pos (by omega)]) | (rw [if_neg (by omega), if_neg (by omega), if_pos (by omega)]) | (rw [if_neg (by omega), if_neg (by omega), if_neg (by omega)]; try rw [Int.min_comm])
        exact ⟨by rw [hv]; rfl, H2.mask [true]⟩
      · skip
        refine g_cond_f rfl (decide_eq_false hb5) ?_
        refine g_skip ?_
        refine g_in ?_
        refine g_then ?_
        refine g_weak [(0, .int .i64 r)] ⟨rfl, trivial⟩ ?_
        refine g_seq ?_
        refine g_region ?_
        refine l_of (s_val (v := .int .i64 r) (wt0 rfl) rfl rfl (x_move rfl rfl) ?_)
        refine l_of (s_val (v := .int .i64 (r - 20000)) (wt0 rfl) rfl rfl (x_bin rfl rfl rfl (b_sub (w64 (by omega)))) ?_)
        refine l_of (s_val (v := .int .i64 ((r - 20000) / 20000)) (wt0 rfl) rfl rfl (x_bin rfl rfl rfl (b_quo (by omega) (quo64 (by omega)))) ?_)
        refine l_of (s_val (v := .int .i64 (4 + ((r - 20000) / 20000))) (wt0 rfl) rfl rfl (x_bin rfl rfl rfl (b_add (w64 (by omega)))) ?_)
        refine l_of (s_val (v := .int .i64 (min 50 (4 + ((r - 20000) / 20000)))) (wt0 rfl) rfl rfl (x_min rfl rfl rfl) ?_)
        refine l_of (s_val (v := .int .i64 (min 50 (4 + ((r - 20000) / 20000)))) (wt0 rfl) rfl rfl (x_assign rfl rfl) ?_)
        refine l_of (s_val (v := .int .i64 0) (wt0 rfl) rfl rfl (x_assign rfl rfl) ?_)
        refine g_nil ?_
        refine g_then ?_
        refine g_ret ?_
        refine fin_ret [.tmp 2, .tmp 3] [.int .i64 (min 50 (4 + ((r - 20000) / 20000))), .int .i64 0] rfl ⟨rfl, rfl, trivial⟩ ?_
        have hv : slotsV r = (min 50 (4 + ((r - 20000) / 20000)), 0) := by
          unfold slotsV
          first | (rw [if_pos (by omega)]; done) | (rw [if_pos (by omega)]) | (rw [if_neg (by omega), if_pos (by omega)]) | (rw [if_neg (by omega), if_neg (by omega), if_pos (by omega)]) | (rw [if_neg (by omega), if_neg (by omega), if_neg (by omega)]; try rw [Int.min_comm])
        exact ⟨by rw [hv]; rfl, H2.mask [true]⟩
  · skip
    have hnb : numB r = false := by simpa using hb3
    simp only [numB, Bool.and_eq_true, Bool.and_eq_false_iff, decide_eq_true_eq, decide_eq_false_iff_not] at hnb
    refine g_cond_t rfl (neg_of hb3) ?_
    refine g_seq ?_
    refine g_region ?_
    refine l_of (s_val (v := .int .i64 0) (wt0 rfl) rfl rfl (x_assign rfl rfl) ?_)
    refine l_of (s_val (v := .int .i64 7) (wt0 rfl) rfl rfl (x_assign rfl rfl) ?_)
    refine g_nil ?_
    refine g_then ?_
    refine g_ret ?_
    refine g_in_ret ?_
    refine g_then_ret ?_
    refine fin_ret [.tmp 2, .tmp 3] [.int .i64 0, .int .i64 7] rfl ⟨rfl, rfl, trivial⟩ ?_
    have hv : slotsV r = (0, 7) := by
      unfold slotsV
      first | (rw [if_pos (by omega)]; done) | (rw [if_pos (by omega)]) | (rw [if_neg (by omega), if_pos (by omega)]) | (rw [if_neg (by omega), if_neg (by omega), if_pos (by omega)]) | (rw [if_neg (by omega), if_neg (by omega), if_neg (by omega)]; try rw [Int.min_comm])
    exact ⟨by rw [hv]; rfl, H2.mask [true]⟩
theorem slots_k (r a b : Int) (h : slotsV r = (a, b)) (w : World) : Calls Try.prog 12 #[.int .i64 r] w fun e w' => e = .returned (.tuple #[.int .i64 a, .int .i64 b]) ∧ S w' [Old w no] := by
  have h1 := slots_s r w
  rw [h] at h1; exact h1
set_option maxRecDepth 20000 in
set_option maxHeartbeats 4000000 in
set_option maxRecDepth 20000 in
set_option maxHeartbeats 4000000 in
theorem awake_s  (w : World) : Calls Try.prog 5 #[] w fun e w' => e = .returned (.bool true) ∧ S w' [Old w no] := by
  have H0 := S.old w
  refine enter 27 Try.func5 rfl rfl rfl ?_
  refine g_weak [] trivial ?_
  refine g_seq ?_
  refine g_region ?_
  refine l_of (s_val (v := .bool false) (wt0 rfl) rfl rfl (x_assign rfl rfl) ?_)
  refine g_nil ?_
  refine g_then ?_
  refine g_seq ?_
  refine g_region ?_
  refine l_of (s_call (wt0 rfl) (x_call' rfl rfl cl12) (slots_k 9999 2 0 (by decide) _) ?_)
  rintro _ wq1 ⟨rfl, H2⟩
  replace H2 : S wq1 [Old w no] := H0.absorb (new := []) H2
  refine b_ret rfl rfl ?_
  refine l_of (s_val (v := .tuple #[.int .i64 2, .int .i64 0]) (wt0 rfl) rfl rfl (x_move rfl rfl) ?_)
  refine l_of (s_val (v := .int .i64 2) (wt0 rfl) rfl rfl (x_extract rfl rfl rfl) ?_)
  refine l_of (s_val (v := .int .i64 0) (wt0 rfl) rfl rfl (x_extract rfl rfl rfl) ?_)
  refine l_of (s_val (v := .int .i64 2) (wt0 rfl) rfl rfl (x_assign rfl rfl) ?_)
  refine l_of (s_val (v := .int .i64 0) (wt0 rfl) rfl rfl (x_assign rfl rfl) ?_)
  refine g_nil ?_
  refine g_then ?_
  refine g_seq ?_
  refine g_region ?_
  refine l_of (s_call (wt0 rfl) (x_call' rfl rfl cl12) (slots_k 40000 5 0 (by decide) _) ?_)
  rintro _ wq3 ⟨rfl, H4⟩
  replace H4 : S wq3 [Old w no] := H2.absorb (new := []) H4
  refine b_ret rfl rfl ?_
  refine l_of (s_val (v := .tuple #[.int .i64 5, .int .i64 0]) (wt0 rfl) rfl rfl (x_move rfl rfl) ?_)
  refine l_of (s_val (v := .int .i64 5) (wt0 rfl) rfl rfl (x_extract rfl rfl rfl) ?_)
  refine l_of (s_val (v := .int .i64 0) (wt0 rfl) rfl rfl (x_extract rfl rfl rfl) ?_)
  refine l_of (s_val (v := .int .i64 5) (wt0 rfl) rfl rfl (x_assign rfl rfl) ?_)
  refine l_of (s_val (v := .int .i64 0) (wt0 rfl) rfl rfl (x_assign rfl rfl) ?_)
  refine g_nil ?_
  refine g_then ?_
  refine g_seq ?_
  refine g_region ?_
  refine l_of (s_val (v := .int .i64 0) (wt0 rfl) rfl rfl (x_move rfl rfl) ?_)
  refine l_of (s_val (v := .bool (decide ((0 : Int) = 0))) (wt0 rfl) rfl rfl (x_bin rfl rfl rfl b_eql) ?_)
  refine l_of (s_val (v := .bool (decide ((0 : Int) = 0))) (wt0 rfl) rfl rfl (x_move rfl rfl) ?_)
  refine l_of (s_val (v := .int .i64 0) (wt1 rfl rfl rfl rfl (decide_eq_true rfl)) rfl rfl (x_move rfl rfl) ?_)
  refine l_of (s_val (v := .bool (decide ((0 : Int) = 0))) (wt1 rfl rfl rfl rfl (decide_eq_true rfl)) rfl rfl (x_bin rfl rfl rfl b_eql) ?_)
  refine l_of (s_val (v := .bool (decide ((0 : Int) = 0))) (wt0 rfl) rfl rfl (x_pick_t rfl rfl (decide_eq_true rfl) rfl) ?_)
  refine l_of (s_val (v := .bool (decide ((0 : Int) = 0))) (wt0 rfl) rfl rfl (x_move rfl rfl) ?_)
  refine l_of (s_val (v := .int .i64 2) (wt1 rfl rfl rfl rfl (decide_eq_true rfl)) rfl rfl (x_move rfl rfl) ?_)
  refine l_of (s_val (v := .bool (decide ((2 : Int) = 2))) (wt1 rfl rfl rfl rfl (decide_eq_true rfl)) rfl rfl (x_bin rfl rfl rfl b_eql) ?_)
  refine l_of (s_val (v := .bool (decide ((2 : Int) = 2))) (wt0 rfl) rfl rfl (x_pick_t rfl rfl (decide_eq_true rfl) rfl) ?_)
  refine l_of (s_val (v := .bool (decide ((2 : Int) = 2))) (wt0 rfl) rfl rfl (x_move rfl rfl) ?_)
  refine l_of (s_val (v := .int .i64 5) (wt1 rfl rfl rfl rfl (decide_eq_true rfl)) rfl rfl (x_move rfl rfl) ?_)
  refine l_of (s_val (v := .bool (decide ((5 : Int) = 5))) (wt1 rfl rfl rfl rfl (decide_eq_true rfl)) rfl rfl (x_bin rfl rfl rfl b_eql) ?_)
  refine l_of (s_val (v := .bool (decide ((5 : Int) = 5))) (wt0 rfl) rfl rfl (x_pick_t rfl rfl (decide_eq_true rfl) rfl) ?_)
  refine l_of (s_val (v := .bool (decide ((5 : Int) = 5))) (wt0 rfl) rfl rfl (x_assign rfl rfl) ?_)
  refine g_nil ?_
  refine g_then ?_
  refine g_weak [(0, .bool (decide ((5 : Int) = 5)))] ⟨rfl, trivial⟩ ?_
  refine g_ret ?_
  refine fin_ret [.tmp 0] [.bool (decide ((5 : Int) = 5))] rfl ⟨rfl, trivial⟩ ?_
  exact ⟨rfl, H4.mask [true]⟩
set_option maxRecDepth 20000 in
set_option maxHeartbeats 4000000 in
set_option maxRecDepth 20000 in
set_option maxHeartbeats 4000000 in
theorem front_s (l : List Rv) (p : Option Addr) (n c : Nat) (hn2 : n ≤ 9223372036854775807) (m : Int)  (w : World) (hr : Reads w p n c 10 (fl rvL l)) : Calls Try.prog 35 #[.slice p n c, .int .i64 m] w fun e w' => e = .returned (.slice p (min n m.toNat) c) ∧ S w' [Old w no] := by
  have H0 := S.old w
  have hnl := hr.lenL rvE
  refine enter 12 Try.func35 rfl rfl rfl ?_
  refine g_weak [(0, .slice p n c), (1, .int .i64 m)] ⟨rfl, rfl, trivial⟩ ?_
  refine g_seq ?_
  refine g_region ?_
  refine l_of (s_val (v := .slice none 0 0) (wt0 rfl) rfl rfl (x_assign rfl rfl) ?_)
  refine g_nil ?_
  refine g_then ?_
  refine g_seq ?_
  refine g_region ?_
  refine l_of (s_val (v := .slice p n c) (wt0 rfl) rfl rfl (x_move rfl rfl) ?_)
  refine l_of (s_val (v := .slice p n c) (wt0 rfl) rfl rfl (x_move rfl rfl) ?_)
  refine l_of (s_val (v := .int .i64 ((n : Int))) (wt0 rfl) rfl rfl (x_lenl rfl rfl Try.underlying22) ?_)
  refine l_of (s_val (v := .int .i64 m) (wt0 rfl) rfl rfl (x_move rfl rfl) ?_)
  refine l_of (s_val (v := .int .i64 ((m.toNat : Int))) (wt0 rfl) rfl rfl (ex_cast (x_max rfl rfl rfl) (by rw [show max m 0 = (m.toNat : Int) from by omega])) ?_)
  refine l_of (s_val (v := .int .i64 (((min n m.toNat : Nat) : Int))) (wt0 rfl) rfl rfl (ex_cast (x_min rfl rfl rfl) (by rw [show min (n : Int) (m.toNat : Int) = ((min n m.toNat : Nat) : Int) from by omega])) ?_)
  have hnc := (H0.exReads (k := 0) rfl hr (fun _ _ _ h => h)).2.1
  refine l_of (s_val (v := .slice p (min n m.toNat) c) (wt0 rfl) rfl rfl (ex_cast (x_sliceH (min n m.toNat) rfl rfl rfl Try.underlying22 sz30 (by omega)) (by rw [cutP0])) ?_)
  refine l_of (s_val (v := .slice p (min n m.toNat) c) (wt0 rfl) rfl rfl (x_assign rfl rfl) ?_)
  refine g_nil ?_
  refine g_then ?_
  refine g_ret ?_
  refine fin_ret [.tmp 4] [.slice p (min n m.toNat) c] rfl ⟨rfl, trivial⟩ ?_
  exact ⟨rfl, H0.mask [true]⟩
end Go.Proofs.Ythfglkkjkpdkpaa
