import Derived.Test.YtdkfkdekiljcoaaCE
set_option linter.unusedSimpArgs false
set_option linter.unusedVariables false
namespace Go.Proofs.Ytdkfkdekiljcoaa
open Go.RowKit
theorem fo33_1 : foO Try.prog 33 1 = some 1 := by kernel_rfl
theorem sz33 : szO Try.prog 33 = some 8 := by kernel_rfl
theorem cl28 : callable Try.prog 28 = true := by kernel_rfl
theorem cl19 : callable Try.prog 19 = true := by kernel_rfl
theorem cl71 : callable Try.prog 71 = true := by kernel_rfl
theorem cl34 : callable Try.prog 34 = true := by kernel_rfl
/-- The field that a message tells. -/
def fieldMS (n : Int) (m : M) : ByteArray × Int :=
  if validP m = true then
    if rightB n = true then
      if m.kind = 13 then fullS n else if m.kind = 14 then newS n else if m.kind = 7 then (if validF n m.data = true then (m.data, 0) else (⟨#[]⟩, 12)) else (⟨#[]⟩, 10)
    else (⟨#[]⟩, 7)
  else (⟨#[]⟩, 1)
theorem newS_err (n : Int) : (newS n).2 = if rightB n = true then 0 else 7 := by unfold newS; split <;> rfl
/-- Whether a message's numbers fit. -/
def fitsK (m : M) (count piece last : Int) : Bool :=
  if m.kind = 6 ∨ m.kind = 12 ∨ m.kind = 16 then decide (m.i1 < count)
  else if m.kind = 8 ∨ m.kind = 10 ∨ m.kind = 15 then decide (m.i1 < count) && decide (IntKind.i64.wrap (m.i2 + m.i3) ≤ (if m.i1 = IntKind.i64.wrap (count - 1) then last else piece))
  else if m.kind = 9 then decide (m.i1 < count) && decide (IntKind.i64.wrap (m.i2 + (m.data.size : Int)) ≤ (if m.i1 = IntKind.i64.wrap (count - 1) then last else piece))
  else true
def fitsS (m : M) (count piece last : Int) : Bool := if validP m = true ∧ ¬ count < 1 ∧ ¬ piece < 1 ∧ ¬ last < 1 then fitsK m count piece last else false
set_option maxRecDepth 20000 in
set_option maxHeartbeats 4000000 in
theorem field_w0 (n : Int) (m : M) (hr : rightB n = false) (w : World) : Calls Try.prog 43 #[.int .i64 n, .agg m.cells] w fun e w' => e = .returned (.tuple #[.string (fieldMS n m).1, .int .i64 (fieldMS n m).2]) ∧ S w' [Old w no] := by
 have H0 := S.old w
 refine enter 41 Try.func43 rfl rfl rfl ?_
 refine g_weak [(0, .int .i64 n), (1, .agg m.cells)] ⟨rfl, rfl, trivial⟩ ?_
 refine w_s ?_
 refine l_of (s_box H0 (wt0 rfl) rfl rfl rfl rfl ?_)
 intro g1 wq2 H3
 refine w_r2 ?_
 refine w_e ?_
 refine g_seq ?_
 refine w_s ?_
 refine w_v (v := .agg m.cells) (x_loadA H3 0 rfl rfl Try.underlying33 rfl sz33 rfl rfl rfl) ?_
 refine l_of (s_call (wt0 rfl) (x_call' rfl rfl cl28) (valid_p _ _) ?_)
 rintro _ wq4 ⟨rfl, H5⟩
 replace H5 : S wq4 [Ob g1 (.cells m.cells 33 (0, 0)), Old w no] := H3.absorb (new := []) (S.of_below H5)
 refine b_ret rfl rfl ?_
 refine w_v (v := .bool (!(validP m))) (x_not (b := validP m) rfl rfl) ?_
 refine w_e ?_
 rcases Bool.eq_false_or_eq_true (validP m) with hb6 | hb6
 ·
  refine g_cond_f rfl (neg_of hb6) ?_
  refine g_skip ?_
  refine g_then ?_
  refine g_seq ?_
  refine w_s ?_
  refine w_m ?_
  refine l_of (s_call0 H5 (wt0 rfl) (x_call' rfl rfl cl19) (new_b _ _) rfl rfl ?_)
  intro wq7 H8
  refine w_r5 ?_
  refine w_e ?_
  refine g_weak [(0, .int .i64 n), (3, .pointer (some ⟨g1, 0, none⟩)), (7, .int .i64 ((newS n).2))] ⟨rfl, rfl, rfl, trivial⟩ ?_
  refine w_s ?_
  refine w_m ?_
  refine w_b (v := .bool (!decide (((newS n).2 : Int) = 0))) (hb := b_neq) ?_
  refine w_e ?_
  refine g_cond_t rfl (nt (by rw [newS_err, hr]; decide)) ?_
  refine w_s ?_
  refine w_r3 ?_
  refine w_e ?_
  refine g_ret ?_
  refine g_then_ret ?_
  refine fin_ret [.tmp 4, .tmp 5] [.string (⟨#[]⟩), .int .i64 ((newS n).2)] rfl ⟨rfl, rfl, trivial⟩ ?_
  exact ⟨by unfold fieldMS; rw [if_pos hb6, if_neg (by rw [hr]; exact Bool.false_ne_true), newS_err, if_neg (by rw [hr]; exact Bool.false_ne_true)]; rfl, H8.mask [false, true]⟩
 ·
  refine g_cond_t rfl (neg_of hb6) ?_
  refine w_s ?_
  refine w_r2 ?_
  refine w_e ?_
  refine g_ret ?_
  refine g_then_ret ?_
  refine fin_ret [.tmp 4, .tmp 5] [.string (⟨#[]⟩), .int .i64 1] rfl ⟨rfl, rfl, trivial⟩ ?_
  exact ⟨by unfold fieldMS; rw [if_neg (by rw [hb6]; exact Bool.false_ne_true)]; rfl, H5.mask [false, true]⟩
set_option maxRecDepth 20000 in
set_option maxHeartbeats 4000000 in
theorem field_w1 (n : Int) (m : M) (hr : rightB n = true) (w : World) : Calls Try.prog 43 #[.int .i64 n, .agg m.cells] w fun e w' => e = .returned (.tuple #[.string (fieldMS n m).1, .int .i64 (fieldMS n m).2]) ∧ S w' [Old w no] := by
 have H0 := S.old w
 refine enter 41 Try.func43 rfl rfl rfl ?_
 refine g_weak [(0, .int .i64 n), (1, .agg m.cells)] ⟨rfl, rfl, trivial⟩ ?_
 refine w_s ?_
 refine l_of (s_box H0 (wt0 rfl) rfl rfl rfl rfl ?_)
 intro g1 wq2 H3
 refine w_r2 ?_
 refine w_e ?_
 refine g_seq ?_
 refine w_s ?_
 refine w_v (v := .agg m.cells) (x_loadA H3 0 rfl rfl Try.underlying33 rfl sz33 rfl rfl rfl) ?_
 refine l_of (s_call (wt0 rfl) (x_call' rfl rfl cl28) (valid_p _ _) ?_)
 rintro _ wq4 ⟨rfl, H5⟩
 replace H5 : S wq4 [Ob g1 (.cells m.cells 33 (0, 0)), Old w no] := H3.absorb (new := []) (S.of_below H5)
 refine b_ret rfl rfl ?_
 refine w_v (v := .bool (!(validP m))) (x_not (b := validP m) rfl rfl) ?_
 refine w_e ?_
 rcases Bool.eq_false_or_eq_true (validP m) with hb6 | hb6
 ·
  refine g_cond_f rfl (neg_of hb6) ?_
  refine g_skip ?_
  refine g_then ?_
  refine g_seq ?_
  refine w_s ?_
  refine w_m ?_
  refine l_of (s_call0 H5 (wt0 rfl) (x_call' rfl rfl cl19) (new_b _ _) rfl rfl ?_)
  intro wq7 H8
  refine w_r5 ?_
  refine w_e ?_
  refine g_weak [(0, .int .i64 n), (3, .pointer (some ⟨g1, 0, none⟩)), (7, .int .i64 ((newS n).2))] ⟨rfl, rfl, rfl, trivial⟩ ?_
  refine w_s ?_
  refine w_m ?_
  refine w_b (v := .bool (!decide (((newS n).2 : Int) = 0))) (hb := b_neq) ?_
  refine w_e ?_
  refine g_cond_f rfl (nf (by rw [newS_err, hr]; decide)) ?_
  refine g_skip ?_
  refine g_then ?_
  refine g_seq ?_
  refine w_s ?_
  refine w_f 0 ?_
  refine w_1 H8 0 ?_
  refine w_e ?_
  refine g_block ?_
  refine w_s ?_
  refine w_b ?_
  refine w_a ?_
  refine w_e ?_
  by_cases hb9 : (m.kind : Int) = 13
  ·
   refine g_cond_t rfl (decide_eq_true hb9) ?_
   refine w_s ?_
   refine w_m ?_
   refine l_of (s_call0 H8 (wt0 rfl) (x_call' rfl rfl cl71) (full_b _ _) rfl rfl ?_)
   intro wq10 H11
   refine w_r4 ?_
   refine w_e ?_
   refine g_weak [(4, .string ((fullS n).1)), (5, .int .i64 ((fullS n).2))] ⟨rfl, rfl, trivial⟩ ?_
   refine g_ret ?_
   refine g_in_ret ?_
   refine g_then_ret ?_
   refine fin_ret [.tmp 4, .tmp 5] [.string ((fullS n).1), .int .i64 ((fullS n).2)] rfl ⟨rfl, rfl, trivial⟩ ?_
   exact ⟨by unfold fieldMS; rw [if_pos hb6, if_pos hr, if_pos hb9]; rfl, H11.mask [false, true]⟩
  ·
   refine g_cond_f rfl (decide_eq_false hb9) ?_
   refine w_s ?_
   refine w_b ?_
   refine w_a ?_
   refine w_e ?_
   by_cases hb12 : (m.kind : Int) = 14
   ·
    refine g_cond_t rfl (decide_eq_true hb12) ?_
    refine w_s ?_
    refine w_m ?_
    refine l_of (s_call0 H8 (wt0 rfl) (x_call' rfl rfl cl19) (new_b _ _) rfl rfl ?_)
    intro wq13 H14
    refine w_r4 ?_
    refine w_e ?_
    refine g_weak [(4, .string ((newS n).1)), (5, .int .i64 ((newS n).2))] ⟨rfl, rfl, trivial⟩ ?_
    refine g_ret ?_
    refine g_in_ret ?_
    refine g_then_ret ?_
    refine fin_ret [.tmp 4, .tmp 5] [.string ((newS n).1), .int .i64 ((newS n).2)] rfl ⟨rfl, rfl, trivial⟩ ?_
    exact ⟨by unfold fieldMS; rw [if_pos hb6, if_pos hr, if_neg hb9, if_pos hb12]; rfl, H14.mask [false, true]⟩
   ·
    refine g_cond_f rfl (decide_eq_false hb12) ?_
    refine w_s ?_
    refine w_b ?_
    refine w_a ?_
    refine w_e ?_
    by_cases hb15 : (m.kind : Int) = 7
    ·
     refine g_cond_t rfl (decide_eq_true hb15) ?_
     refine g_seq ?_
     refine w_s ?_
     refine w_r2 ?_
     refine w_1 H8 0 ?_
     refine l_of (s_call0 H8 (wt0 rfl) (x_call' rfl rfl cl34) (valid_b _ _ _) rfl rfl ?_)
     intro wq16 H17
     refine w_e ?_
     refine g_weak [(3, .pointer (some ⟨g1, 0, none⟩)), (38, .bool (validF n m.data))] ⟨rfl, rfl, trivial⟩ ?_
     rcases Bool.eq_false_or_eq_true (validF n m.data) with hb18 | hb18
     ·
      refine g_cond_t rfl hb18 ?_
      refine w_s ?_
      refine w_f 7 ?_
      refine w_1 H17 0 ?_
      refine w_r2 ?_
      refine w_e ?_
      refine g_ret ?_
      refine g_then_ret ?_
      refine g_in_ret ?_
      refine g_then_ret ?_
      refine fin_ret [.tmp 4, .tmp 5] [.string (m.data), .int .i64 0] rfl ⟨rfl, rfl, trivial⟩ ?_
      exact ⟨by unfold fieldMS; rw [if_pos hb6, if_pos hr, if_neg hb9, if_neg hb12, if_pos hb15, if_pos hb18]; rfl, H17.mask [false, true]⟩
     ·
      refine g_cond_f rfl hb18 ?_
      refine g_skip ?_
      refine g_then ?_
      refine w_s ?_
      refine w_r2 ?_
      refine w_e ?_
      refine g_ret ?_
      refine g_in_ret ?_
      refine g_then_ret ?_
      refine fin_ret [.tmp 4, .tmp 5] [.string (⟨#[]⟩), .int .i64 12] rfl ⟨rfl, rfl, trivial⟩ ?_
      exact ⟨by unfold fieldMS; rw [if_pos hb6, if_pos hr, if_neg hb9, if_neg hb12, if_pos hb15, if_neg (by rw [hb18]; exact Bool.false_ne_true)]; rfl, H17.mask [false, true]⟩
    ·
     refine g_cond_f rfl (decide_eq_false hb15) ?_
     refine g_skip ?_
     refine g_in ?_
     refine g_then ?_
     refine g_weak [] trivial ?_
     refine w_s ?_
     refine w_r2 ?_
     refine w_e ?_
     refine g_ret ?_
     refine fin_ret [.tmp 4, .tmp 5] [.string (⟨#[]⟩), .int .i64 10] rfl ⟨rfl, rfl, trivial⟩ ?_
     exact ⟨by unfold fieldMS; rw [if_pos hb6, if_pos hr, if_neg hb9, if_neg hb12, if_neg hb15]; rfl, H8.mask [false, true]⟩
 ·
  refine g_cond_t rfl (neg_of hb6) ?_
  refine w_s ?_
  refine w_r2 ?_
  refine w_e ?_
  refine g_ret ?_
  refine g_then_ret ?_
  refine fin_ret [.tmp 4, .tmp 5] [.string (⟨#[]⟩), .int .i64 1] rfl ⟨rfl, rfl, trivial⟩ ?_
  exact ⟨by unfold fieldMS; rw [if_neg (by rw [hb6]; exact Bool.false_ne_true)]; rfl, H5.mask [false, true]⟩
theorem field_w (n : Int) (m : M) (w : World) : Calls Try.prog 43 #[.int .i64 n, .agg m.cells] w fun e w' => e = .returned (.tuple #[.string (fieldMS n m).1, .int .i64 (fieldMS n m).2]) ∧ S w' [Old w no] := by
  cases hr : rightB n with
  | false => exact field_w0 n m hr w
  | true => exact field_w1 n m hr w
set_option maxRecDepth 20000 in
set_option maxHeartbeats 4000000 in
theorem fits_w (m : M) (count piece last : Int)  (w : World) : Calls Try.prog 35 #[.agg m.cells, .int .i64 count, .int .i64 piece, .int .i64 last] w fun e w' => e = .returned (.bool (fitsS m count piece last)) ∧ S w' [Old w no] := by
 have H0 := S.old w
 refine enter 75 Try.func35 rfl rfl rfl ?_
 refine g_weak [(0, .agg m.cells), (1, .int .i64 count), (2, .int .i64 piece), (3, .int .i64 last)] ⟨rfl, rfl, rfl, rfl, trivial⟩ ?_
 refine w_s ?_
 refine l_of (s_box H0 (wt0 rfl) rfl rfl rfl rfl ?_)
 intro g1 wq2 H3
 refine w_a ?_
 refine w_e ?_
 refine g_seq ?_
 refine w_s ?_
 refine w_v (v := .agg m.cells) (x_loadA H3 0 rfl rfl Try.underlying33 rfl sz33 rfl rfl rfl) ?_
 refine l_of (s_call (wt0 rfl) (x_call' rfl rfl cl28) (valid_p _ _) ?_)
 rintro _ wq4 ⟨rfl, H5⟩
 replace H5 : S wq4 [Ob g1 (.cells m.cells 33 (0, 0)), Old w no] := H3.absorb (new := []) (S.of_below H5)
 refine b_ret rfl rfl ?_
 refine w_v (v := .bool (!(validP m))) (x_not (b := validP m) rfl rfl) ?_
 refine w_m ?_
 rcases Bool.eq_false_or_eq_true (validP m) with hb6 | hb6
 ·
  refine w_g (neg_of hb6) xm ?_
  refine w_g (neg_of hb6) (x_bin rfl rfl rfl b_lss) ?_
  refine w_v (v := .bool (decide ((count : Int) < 1))) (x_pick_f rfl rfl (neg_of hb6) rfl) ?_
  refine w_m ?_
  by_cases hb7 : (count : Int) < 1
  ·
   refine w_n (decide_eq_true hb7) ?_
   refine w_n (decide_eq_true hb7) ?_
   refine w_v (v := .bool true) (x_pick_t rfl rfl (decide_eq_true hb7) rfl) ?_
   refine w_m ?_
   refine w_n rfl ?_
   refine w_n rfl ?_
   refine w_v (v := .bool true) (x_pick_t rfl rfl rfl rfl) ?_
   refine w_e ?_
   refine g_weak [(1, .int .i64 count), (2, .int .i64 piece), (3, .int .i64 last), (4, .pointer (some ⟨g1, 0, none⟩)), (24, .bool true)] ⟨rfl, rfl, rfl, rfl, rfl, trivial⟩ ?_
   refine g_cond_t rfl rfl ?_
   refine w_s ?_
   refine w_a ?_
   refine w_e ?_
   refine g_ret ?_
   refine g_then_ret ?_
   refine fin_ret [.tmp 8] [.bool false] rfl ⟨rfl, trivial⟩ ?_
   exact ⟨by unfold fitsS fitsK; simp [tupled, hb6, hb7], H5.mask [false, true]⟩
  ·
   refine w_g (decide_eq_false hb7) xm ?_
   refine w_g (decide_eq_false hb7) (x_bin rfl rfl rfl b_lss) ?_
   refine w_v (v := .bool (decide ((piece : Int) < 1))) (x_pick_f rfl rfl (decide_eq_false hb7) rfl) ?_
   refine w_m ?_
   by_cases hb8 : (piece : Int) < 1
   ·
    refine w_n (decide_eq_true hb8) ?_
    refine w_n (decide_eq_true hb8) ?_
    refine w_v (v := .bool true) (x_pick_t rfl rfl (decide_eq_true hb8) rfl) ?_
    refine w_e ?_
    refine g_weak [(1, .int .i64 count), (2, .int .i64 piece), (3, .int .i64 last), (4, .pointer (some ⟨g1, 0, none⟩)), (24, .bool true)] ⟨rfl, rfl, rfl, rfl, rfl, trivial⟩ ?_
    refine g_cond_t rfl rfl ?_
    refine w_s ?_
    refine w_a ?_
    refine w_e ?_
    refine g_ret ?_
    refine g_then_ret ?_
    refine fin_ret [.tmp 8] [.bool false] rfl ⟨rfl, trivial⟩ ?_
    exact ⟨by unfold fitsS fitsK; simp [tupled, hb6, hb7, hb8], H5.mask [false, true]⟩
   ·
    refine w_g (decide_eq_false hb8) xm ?_
    refine w_g (decide_eq_false hb8) (x_bin rfl rfl rfl b_lss) ?_
    refine w_v (v := .bool (decide ((last : Int) < 1))) (x_pick_f rfl rfl (decide_eq_false hb8) rfl) ?_
    refine w_e ?_
    refine g_weak [(1, .int .i64 count), (2, .int .i64 piece), (3, .int .i64 last), (4, .pointer (some ⟨g1, 0, none⟩)), (24, .bool (decide ((last : Int) < 1)))] ⟨rfl, rfl, rfl, rfl, rfl, trivial⟩ ?_
    by_cases hb9 : (last : Int) < 1
    ·
     refine g_cond_t rfl (decide_eq_true hb9) ?_
     refine w_s ?_
     refine w_a ?_
     refine w_e ?_
     refine g_ret ?_
     refine g_then_ret ?_
     refine fin_ret [.tmp 8] [.bool false] rfl ⟨rfl, trivial⟩ ?_
     exact ⟨by unfold fitsS fitsK; simp [tupled, hb6, hb7, hb8, hb9], H5.mask [false, true]⟩
    ·
     refine g_cond_f rfl (decide_eq_false hb9) ?_
     refine g_skip ?_
     refine g_then ?_
     refine w_s ?_
     refine w_r2 ?_
     refine w_e ?_
     refine g_seq ?_
     refine w_s ?_
     refine w_f 1 ?_
     refine w_1 H5 0 ?_
     refine w_m ?_
     refine w_b (v := .int .i64 (IntKind.i64.wrap (count - 1))) (hb := (b_sub rfl)) ?_
     refine w_b ?_
     refine w_e ?_
     by_cases hb10 : (m.i1 : Int) = IntKind.i64.wrap (count - 1)
     ·
      refine g_cond_t rfl (decide_eq_true hb10) ?_
      refine g_region ?_
      refine w_r2 ?_
      refine w_e ?_
      refine g_seq ?_
      refine w_s ?_
      refine w_f 0 ?_
      refine w_1 H5 0 ?_
      refine w_e ?_
      refine g_block ?_
      refine g_seq ?_
      refine w_s ?_
      refine w_b ?_
      refine w_a ?_
      refine w_e ?_
      refine g_weak [(1, .int .i64 count), (4, .pointer (some ⟨g1, 0, none⟩)), (9, .int .i64 last), (33, .int .i64 (m.kind)), (34, .bool (decide ((m.kind : Int) = 6)))] ⟨rfl, rfl, rfl, rfl, rfl, trivial⟩ ?_
      by_cases hb11 : (m.kind : Int) = 6
      ·
       refine g_cond_t rfl (decide_eq_true hb11) ?_
       refine g_skip ?_
       refine g_then ?_
       refine g_cond_t rfl (decide_eq_true hb11) ?_
       refine w_s ?_
       refine w_f 1 ?_
       refine w_1 H5 0 ?_
       refine w_m ?_
       refine w_b ?_
       refine w_a ?_
       refine w_e ?_
       refine g_ret ?_
       refine g_in_ret ?_
       refine g_then_ret ?_
       refine fin_ret [.tmp 8] [.bool (decide ((m.i1 : Int) < count))] rfl ⟨rfl, trivial⟩ ?_
       have hb10x : (if m.i1 = IntKind.i64.wrap (count - 1) then last else piece) = last := if_pos hb10
       exact ⟨by unfold fitsS fitsK; simp [tupled, hb6, hb7, hb8, hb9, hb10x, hb11], H5.mask [false, true]⟩
      ·
       refine g_cond_f rfl (decide_eq_false hb11) ?_
       refine w_s ?_
       refine w_b ?_
       refine w_a ?_
       refine w_e ?_
       by_cases hb12 : (m.kind : Int) = 12
       ·
        refine g_cond_t rfl (decide_eq_true hb12) ?_
        refine g_skip ?_
        refine g_then ?_
        refine g_cond_t rfl (decide_eq_true hb12) ?_
        refine w_s ?_
        refine w_f 1 ?_
        refine w_1 H5 0 ?_
        refine w_m ?_
        refine w_b ?_
        refine w_a ?_
        refine w_e ?_
        refine g_ret ?_
        refine g_in_ret ?_
        refine g_then_ret ?_
        refine fin_ret [.tmp 8] [.bool (decide ((m.i1 : Int) < count))] rfl ⟨rfl, trivial⟩ ?_
        have hb10x : (if m.i1 = IntKind.i64.wrap (count - 1) then last else piece) = last := if_pos hb10
        exact ⟨by unfold fitsS fitsK; simp [tupled, hb6, hb7, hb8, hb9, hb10x, hb11, hb12], H5.mask [false, true]⟩
       ·
        refine g_cond_f rfl (decide_eq_false hb12) ?_
        refine g_region ?_
        refine w_b ?_
        refine w_a ?_
        refine w_e ?_
        by_cases hb13 : (m.kind : Int) = 16
        ·
         refine g_cond_t rfl (decide_eq_true hb13) ?_
         refine w_s ?_
         refine w_f 1 ?_
         refine w_1 H5 0 ?_
         refine w_m ?_
         refine w_b ?_
         refine w_a ?_
         refine w_e ?_
         refine g_ret ?_
         refine g_in_ret ?_
         refine g_then_ret ?_
         refine fin_ret [.tmp 8] [.bool (decide ((m.i1 : Int) < count))] rfl ⟨rfl, trivial⟩ ?_
         have hb10x : (if m.i1 = IntKind.i64.wrap (count - 1) then last else piece) = last := if_pos hb10
         exact ⟨by unfold fitsS fitsK; simp [tupled, hb6, hb7, hb8, hb9, hb10x, hb11, hb12, hb13], H5.mask [false, true]⟩
        ·
         refine g_cond_f rfl (decide_eq_false hb13) ?_
         refine g_seq ?_
         refine w_s ?_
         refine w_b ?_
         refine w_a ?_
         refine w_e ?_
         by_cases hb14 : (m.kind : Int) = 8
         ·
          refine g_cond_t rfl (decide_eq_true hb14) ?_
          refine g_skip ?_
          refine g_then ?_
          refine g_cond_t rfl (decide_eq_true hb14) ?_
          refine w_s ?_
          refine w_f 1 ?_
          refine w_1 H5 0 ?_
          refine w_m ?_
          refine w_b ?_
          refine w_m ?_
          by_cases hb15 : (m.i1 : Int) < count
          ·
           refine w_g (decide_eq_true hb15) (xf 2) ?_
           refine w_g (decide_eq_true hb15) (xl H5 0) ?_
           refine w_g (decide_eq_true hb15) (xf 3) ?_
           refine w_g (decide_eq_true hb15) (xl H5 0) ?_
           refine w_g (v := .int .i64 (IntKind.i64.wrap (m.i2 + m.i3))) (decide_eq_true hb15) (x_bin rfl rfl rfl (b_add rfl)) ?_
           refine w_g (decide_eq_true hb15) xm ?_
           refine w_g (decide_eq_true hb15) (x_bin rfl rfl rfl b_leq) ?_
           refine w_v (v := .bool (decide ((IntKind.i64.wrap (m.i2 + m.i3) : Int) ≤ last))) (x_pick_t rfl rfl (decide_eq_true hb15) rfl) ?_
           refine w_a ?_
           refine w_e ?_
           refine g_weak [(8, .bool (decide ((IntKind.i64.wrap (m.i2 + m.i3) : Int) ≤ last)))] ⟨rfl, trivial⟩ ?_
           refine g_ret ?_
           refine g_in_ret ?_
           refine g_then_ret ?_
           refine fin_ret [.tmp 8] [.bool (decide ((IntKind.i64.wrap (m.i2 + m.i3) : Int) ≤ last))] rfl ⟨rfl, trivial⟩ ?_
           have hb10x : (if m.i1 = IntKind.i64.wrap (count - 1) then last else piece) = last := if_pos hb10
           exact ⟨by unfold fitsS fitsK; simp [tupled, hb6, hb7, hb8, hb9, hb10x, hb11, hb12, hb13, hb14, hb15], H5.mask [false, true]⟩
          ·
           refine w_n (decide_eq_false hb15) ?_
           refine w_n (decide_eq_false hb15) ?_
           refine w_n (decide_eq_false hb15) ?_
           refine w_n (decide_eq_false hb15) ?_
           refine w_n (decide_eq_false hb15) ?_
           refine w_n (decide_eq_false hb15) ?_
           refine w_n (decide_eq_false hb15) ?_
           refine w_v (v := .bool false) (x_pick_f rfl rfl (decide_eq_false hb15) rfl) ?_
           refine w_a ?_
           refine w_e ?_
           refine g_weak [(8, .bool false)] ⟨rfl, trivial⟩ ?_
           refine g_ret ?_
           refine g_in_ret ?_
           refine g_then_ret ?_
           refine fin_ret [.tmp 8] [.bool false] rfl ⟨rfl, trivial⟩ ?_
           have hb10x : (if m.i1 = IntKind.i64.wrap (count - 1) then last else piece) = last := if_pos hb10
           exact ⟨by unfold fitsS fitsK; simp [tupled, hb6, hb7, hb8, hb9, hb10x, hb11, hb12, hb13, hb14, hb15], H5.mask [false, true]⟩
         ·
          refine g_cond_f rfl (decide_eq_false hb14) ?_
          refine w_s ?_
          refine w_b ?_
          refine w_a ?_
          refine w_e ?_
          by_cases hb16 : (m.kind : Int) = 10
          ·
           refine g_cond_t rfl (decide_eq_true hb16) ?_
           refine g_skip ?_
           refine g_then ?_
           refine g_cond_t rfl (decide_eq_true hb16) ?_
           refine w_s ?_
           refine w_f 1 ?_
           refine w_1 H5 0 ?_
           refine w_m ?_
           refine w_b ?_
           refine w_m ?_
           by_cases hb17 : (m.i1 : Int) < count
           ·
            refine w_g (decide_eq_true hb17) (xf 2) ?_
            refine w_g (decide_eq_true hb17) (xl H5 0) ?_
            refine w_g (decide_eq_true hb17) (xf 3) ?_
            refine w_g (decide_eq_true hb17) (xl H5 0) ?_
            refine w_g (v := .int .i64 (IntKind.i64.wrap (m.i2 + m.i3))) (decide_eq_true hb17) (x_bin rfl rfl rfl (b_add rfl)) ?_
            refine w_g (decide_eq_true hb17) xm ?_
            refine w_g (decide_eq_true hb17) (x_bin rfl rfl rfl b_leq) ?_
            refine w_v (v := .bool (decide ((IntKind.i64.wrap (m.i2 + m.i3) : Int) ≤ last))) (x_pick_t rfl rfl (decide_eq_true hb17) rfl) ?_
            refine w_a ?_
            refine w_e ?_
            refine g_weak [(8, .bool (decide ((IntKind.i64.wrap (m.i2 + m.i3) : Int) ≤ last)))] ⟨rfl, trivial⟩ ?_
            refine g_ret ?_
            refine g_in_ret ?_
            refine g_then_ret ?_
            refine fin_ret [.tmp 8] [.bool (decide ((IntKind.i64.wrap (m.i2 + m.i3) : Int) ≤ last))] rfl ⟨rfl, trivial⟩ ?_
            have hb10x : (if m.i1 = IntKind.i64.wrap (count - 1) then last else piece) = last := if_pos hb10
            exact ⟨by unfold fitsS fitsK; simp [tupled, hb6, hb7, hb8, hb9, hb10x, hb11, hb12, hb13, hb14, hb16, hb17], H5.mask [false, true]⟩
           ·
            refine w_n (decide_eq_false hb17) ?_
            refine w_n (decide_eq_false hb17) ?_
            refine w_n (decide_eq_false hb17) ?_
            refine w_n (decide_eq_false hb17) ?_
            refine w_n (decide_eq_false hb17) ?_
            refine w_n (decide_eq_false hb17) ?_
            refine w_n (decide_eq_false hb17) ?_
            refine w_v (v := .bool false) (x_pick_f rfl rfl (decide_eq_false hb17) rfl) ?_
            refine w_a ?_
            refine w_e ?_
            refine g_weak [(8, .bool false)] ⟨rfl, trivial⟩ ?_
            refine g_ret ?_
            refine g_in_ret ?_
            refine g_then_ret ?_
            refine fin_ret [.tmp 8] [.bool false] rfl ⟨rfl, trivial⟩ ?_
            have hb10x : (if m.i1 = IntKind.i64.wrap (count - 1) then last else piece) = last := if_pos hb10
            exact ⟨by unfold fitsS fitsK; simp [tupled, hb6, hb7, hb8, hb9, hb10x, hb11, hb12, hb13, hb14, hb16, hb17], H5.mask [false, true]⟩
          ·
           refine g_cond_f rfl (decide_eq_false hb16) ?_
           refine g_region ?_
           refine w_b ?_
           refine w_a ?_
           refine w_e ?_
           by_cases hb18 : (m.kind : Int) = 15
           ·
            refine g_cond_t rfl (decide_eq_true hb18) ?_
            refine w_s ?_
            refine w_f 1 ?_
            refine w_1 H5 0 ?_
            refine w_m ?_
            refine w_b ?_
            refine w_m ?_
            by_cases hb19 : (m.i1 : Int) < count
            ·
             refine w_g (decide_eq_true hb19) (xf 2) ?_
             refine w_g (decide_eq_true hb19) (xl H5 0) ?_
             refine w_g (decide_eq_true hb19) (xf 3) ?_
             refine w_g (decide_eq_true hb19) (xl H5 0) ?_
             refine w_g (v := .int .i64 (IntKind.i64.wrap (m.i2 + m.i3))) (decide_eq_true hb19) (x_bin rfl rfl rfl (b_add rfl)) ?_
             refine w_g (decide_eq_true hb19) xm ?_
             refine w_g (decide_eq_true hb19) (x_bin rfl rfl rfl b_leq) ?_
             refine w_v (v := .bool (decide ((IntKind.i64.wrap (m.i2 + m.i3) : Int) ≤ last))) (x_pick_t rfl rfl (decide_eq_true hb19) rfl) ?_
             refine w_a ?_
             refine w_e ?_
             refine g_weak [(8, .bool (decide ((IntKind.i64.wrap (m.i2 + m.i3) : Int) ≤ last)))] ⟨rfl, trivial⟩ ?_
             refine g_ret ?_
             refine g_in_ret ?_
             refine g_then_ret ?_
             refine fin_ret [.tmp 8] [.bool (decide ((IntKind.i64.wrap (m.i2 + m.i3) : Int) ≤ last))] rfl ⟨rfl, trivial⟩ ?_
             have hb10x : (if m.i1 = IntKind.i64.wrap (count - 1) then last else piece) = last := if_pos hb10
             exact ⟨by unfold fitsS fitsK; simp [tupled, hb6, hb7, hb8, hb9, hb10x, hb11, hb12, hb13, hb14, hb16, hb18, hb19], H5.mask [false, true]⟩
            ·
             refine w_n (decide_eq_false hb19) ?_
             refine w_n (decide_eq_false hb19) ?_
             refine w_n (decide_eq_false hb19) ?_
             refine w_n (decide_eq_false hb19) ?_
             refine w_n (decide_eq_false hb19) ?_
             refine w_n (decide_eq_false hb19) ?_
             refine w_n (decide_eq_false hb19) ?_
             refine w_v (v := .bool false) (x_pick_f rfl rfl (decide_eq_false hb19) rfl) ?_
             refine w_a ?_
             refine w_e ?_
             refine g_weak [(8, .bool false)] ⟨rfl, trivial⟩ ?_
             refine g_ret ?_
             refine g_in_ret ?_
             refine g_then_ret ?_
             refine fin_ret [.tmp 8] [.bool false] rfl ⟨rfl, trivial⟩ ?_
             have hb10x : (if m.i1 = IntKind.i64.wrap (count - 1) then last else piece) = last := if_pos hb10
             exact ⟨by unfold fitsS fitsK; simp [tupled, hb6, hb7, hb8, hb9, hb10x, hb11, hb12, hb13, hb14, hb16, hb18, hb19], H5.mask [false, true]⟩
           ·
            refine g_cond_f rfl (decide_eq_false hb18) ?_
            refine w_s ?_
            refine w_b ?_
            refine w_a ?_
            refine w_e ?_
            by_cases hb20 : (m.kind : Int) = 9
            ·
             refine g_cond_t rfl (decide_eq_true hb20) ?_
             refine w_s ?_
             refine w_f 1 ?_
             refine w_1 H5 0 ?_
             refine w_m ?_
             refine w_b ?_
             refine w_m ?_
             by_cases hb21 : (m.i1 : Int) < count
             ·
              refine w_g (decide_eq_true hb21) (xf 2) ?_
              refine w_g (decide_eq_true hb21) (xl H5 0) ?_
              refine w_g (decide_eq_true hb21) (xf 7) ?_
              refine w_g (decide_eq_true hb21) (xl H5 0) ?_
              refine w_g (v := .int .i64 ((m.data.size : Int))) (decide_eq_true hb21) (x_lens rfl rfl Try.underlying9) ?_
              refine w_g (v := .int .i64 (IntKind.i64.wrap (m.i2 + (m.data.size : Int)))) (decide_eq_true hb21) (x_bin rfl rfl rfl (b_add rfl)) ?_
              refine w_g (decide_eq_true hb21) xm ?_
              refine w_g (decide_eq_true hb21) (x_bin rfl rfl rfl b_leq) ?_
              refine w_v (v := .bool (decide ((IntKind.i64.wrap (m.i2 + (m.data.size : Int)) : Int) ≤ last))) (x_pick_t rfl rfl (decide_eq_true hb21) rfl) ?_
              refine w_a ?_
              refine w_e ?_
              refine g_weak [(8, .bool (decide ((IntKind.i64.wrap (m.i2 + (m.data.size : Int)) : Int) ≤ last)))] ⟨rfl, trivial⟩ ?_
              refine g_ret ?_
              refine g_in_ret ?_
              refine g_then_ret ?_
              refine fin_ret [.tmp 8] [.bool (decide ((IntKind.i64.wrap (m.i2 + (m.data.size : Int)) : Int) ≤ last))] rfl ⟨rfl, trivial⟩ ?_
              have hb10x : (if m.i1 = IntKind.i64.wrap (count - 1) then last else piece) = last := if_pos hb10
              exact ⟨by unfold fitsS fitsK; simp [tupled, hb6, hb7, hb8, hb9, hb10x, hb11, hb12, hb13, hb14, hb16, hb18, hb20, hb21], H5.mask [false, true]⟩
             ·
              refine w_n (decide_eq_false hb21) ?_
              refine w_n (decide_eq_false hb21) ?_
              refine w_n (decide_eq_false hb21) ?_
              refine w_n (decide_eq_false hb21) ?_
              refine w_n (decide_eq_false hb21) ?_
              refine w_n (decide_eq_false hb21) ?_
              refine w_n (decide_eq_false hb21) ?_
              refine w_n (decide_eq_false hb21) ?_
              refine w_v (v := .bool false) (x_pick_f rfl rfl (decide_eq_false hb21) rfl) ?_
              refine w_a ?_
              refine w_e ?_
              refine g_weak [(8, .bool false)] ⟨rfl, trivial⟩ ?_
              refine g_ret ?_
              refine g_in_ret ?_
              refine g_then_ret ?_
              refine fin_ret [.tmp 8] [.bool false] rfl ⟨rfl, trivial⟩ ?_
              have hb10x : (if m.i1 = IntKind.i64.wrap (count - 1) then last else piece) = last := if_pos hb10
              exact ⟨by unfold fitsS fitsK; simp [tupled, hb6, hb7, hb8, hb9, hb10x, hb11, hb12, hb13, hb14, hb16, hb18, hb20, hb21], H5.mask [false, true]⟩
            ·
             refine g_cond_f rfl (decide_eq_false hb20) ?_
             refine g_skip ?_
             refine g_in ?_
             refine g_then ?_
             refine g_weak [] trivial ?_
             refine w_s ?_
             refine w_a ?_
             refine w_e ?_
             refine g_ret ?_
             refine fin_ret [.tmp 8] [.bool true] rfl ⟨rfl, trivial⟩ ?_
             have hb10x : (if m.i1 = IntKind.i64.wrap (count - 1) then last else piece) = last := if_pos hb10
             exact ⟨by unfold fitsS fitsK; simp [tupled, hb6, hb7, hb8, hb9, hb10x, hb11, hb12, hb13, hb14, hb16, hb18, hb20], H5.mask [false, true]⟩
     ·
      refine g_cond_f rfl (decide_eq_false hb10) ?_
      refine g_skip ?_
      refine g_then ?_
      refine g_seq ?_
      refine w_s ?_
      refine w_f 0 ?_
      refine w_1 H5 0 ?_
      refine w_e ?_
      refine g_block ?_
      refine g_seq ?_
      refine w_s ?_
      refine w_b ?_
      refine w_a ?_
      refine w_e ?_
      by_cases hb22 : (m.kind : Int) = 6
      ·
       refine g_cond_t rfl (decide_eq_true hb22) ?_
       refine g_skip ?_
       refine g_then ?_
       refine g_cond_t rfl (decide_eq_true hb22) ?_
       refine w_s ?_
       refine w_f 1 ?_
       refine w_1 H5 0 ?_
       refine w_m ?_
       refine w_b ?_
       refine w_a ?_
       refine w_e ?_
       refine g_weak [(8, .bool (decide ((m.i1 : Int) < count)))] ⟨rfl, trivial⟩ ?_
       refine g_ret ?_
       refine g_in_ret ?_
       refine g_then_ret ?_
       refine fin_ret [.tmp 8] [.bool (decide ((m.i1 : Int) < count))] rfl ⟨rfl, trivial⟩ ?_
       have hb10x : (if m.i1 = IntKind.i64.wrap (count - 1) then last else piece) = piece := if_neg hb10
       exact ⟨by unfold fitsS fitsK; simp [tupled, hb6, hb7, hb8, hb9, hb10x, hb22], H5.mask [false, true]⟩
      ·
       refine g_cond_f rfl (decide_eq_false hb22) ?_
       refine w_s ?_
       refine w_b ?_
       refine w_a ?_
       refine w_e ?_
       refine g_weak [(1, .int .i64 count), (4, .pointer (some ⟨g1, 0, none⟩)), (9, .int .i64 piece), (33, .int .i64 (m.kind)), (34, .bool (decide ((m.kind : Int) = 12)))] ⟨rfl, rfl, rfl, rfl, rfl, trivial⟩ ?_
       by_cases hb23 : (m.kind : Int) = 12
       ·
        refine g_cond_t rfl (decide_eq_true hb23) ?_
        refine g_skip ?_
        refine g_then ?_
        refine g_cond_t rfl (decide_eq_true hb23) ?_
        refine w_s ?_
        refine w_f 1 ?_
        refine w_1 H5 0 ?_
        refine w_m ?_
        refine w_b ?_
        refine w_a ?_
        refine w_e ?_
        refine g_ret ?_
        refine g_in_ret ?_
        refine g_then_ret ?_
        refine fin_ret [.tmp 8] [.bool (decide ((m.i1 : Int) < count))] rfl ⟨rfl, trivial⟩ ?_
        have hb10x : (if m.i1 = IntKind.i64.wrap (count - 1) then last else piece) = piece := if_neg hb10
        exact ⟨by unfold fitsS fitsK; simp [tupled, hb6, hb7, hb8, hb9, hb10x, hb22, hb23], H5.mask [false, true]⟩
       ·
        refine g_cond_f rfl (decide_eq_false hb23) ?_
        refine g_region ?_
        refine w_b ?_
        refine w_a ?_
        refine w_e ?_
        by_cases hb24 : (m.kind : Int) = 16
        ·
         refine g_cond_t rfl (decide_eq_true hb24) ?_
         refine w_s ?_
         refine w_f 1 ?_
         refine w_1 H5 0 ?_
         refine w_m ?_
         refine w_b ?_
         refine w_a ?_
         refine w_e ?_
         refine g_ret ?_
         refine g_in_ret ?_
         refine g_then_ret ?_
         refine fin_ret [.tmp 8] [.bool (decide ((m.i1 : Int) < count))] rfl ⟨rfl, trivial⟩ ?_
         have hb10x : (if m.i1 = IntKind.i64.wrap (count - 1) then last else piece) = piece := if_neg hb10
         exact ⟨by unfold fitsS fitsK; simp [tupled, hb6, hb7, hb8, hb9, hb10x, hb22, hb23, hb24], H5.mask [false, true]⟩
        ·
         refine g_cond_f rfl (decide_eq_false hb24) ?_
         refine g_seq ?_
         refine w_s ?_
         refine w_b ?_
         refine w_a ?_
         refine w_e ?_
         by_cases hb25 : (m.kind : Int) = 8
         ·
          refine g_cond_t rfl (decide_eq_true hb25) ?_
          refine g_skip ?_
          refine g_then ?_
          refine g_cond_t rfl (decide_eq_true hb25) ?_
          refine w_s ?_
          refine w_f 1 ?_
          refine w_1 H5 0 ?_
          refine w_m ?_
          refine w_b ?_
          refine w_m ?_
          by_cases hb26 : (m.i1 : Int) < count
          ·
           refine w_g (decide_eq_true hb26) (xf 2) ?_
           refine w_g (decide_eq_true hb26) (xl H5 0) ?_
           refine w_g (decide_eq_true hb26) (xf 3) ?_
           refine w_g (decide_eq_true hb26) (xl H5 0) ?_
           refine w_g (v := .int .i64 (IntKind.i64.wrap (m.i2 + m.i3))) (decide_eq_true hb26) (x_bin rfl rfl rfl (b_add rfl)) ?_
           refine w_g (decide_eq_true hb26) xm ?_
           refine w_g (decide_eq_true hb26) (x_bin rfl rfl rfl b_leq) ?_
           refine w_v (v := .bool (decide ((IntKind.i64.wrap (m.i2 + m.i3) : Int) ≤ piece))) (x_pick_t rfl rfl (decide_eq_true hb26) rfl) ?_
           refine w_a ?_
           refine w_e ?_
           refine g_weak [(8, .bool (decide ((IntKind.i64.wrap (m.i2 + m.i3) : Int) ≤ piece)))] ⟨rfl, trivial⟩ ?_
           refine g_ret ?_
           refine g_in_ret ?_
           refine g_then_ret ?_
           refine fin_ret [.tmp 8] [.bool (decide ((IntKind.i64.wrap (m.i2 + m.i3) : Int) ≤ piece))] rfl ⟨rfl, trivial⟩ ?_
           have hb10x : (if m.i1 = IntKind.i64.wrap (count - 1) then last else piece) = piece := if_neg hb10
           exact ⟨by unfold fitsS fitsK; simp [tupled, hb6, hb7, hb8, hb9, hb10x, hb22, hb23, hb24, hb25, hb26], H5.mask [false, true]⟩
          ·
           refine w_n (decide_eq_false hb26) ?_
           refine w_n (decide_eq_false hb26) ?_
           refine w_n (decide_eq_false hb26) ?_
           refine w_n (decide_eq_false hb26) ?_
           refine w_n (decide_eq_false hb26) ?_
           refine w_n (decide_eq_false hb26) ?_
           refine w_n (decide_eq_false hb26) ?_
           refine w_v (v := .bool false) (x_pick_f rfl rfl (decide_eq_false hb26) rfl) ?_
           refine w_a ?_
           refine w_e ?_
           refine g_weak [(8, .bool false)] ⟨rfl, trivial⟩ ?_
           refine g_ret ?_
           refine g_in_ret ?_
           refine g_then_ret ?_
           refine fin_ret [.tmp 8] [.bool false] rfl ⟨rfl, trivial⟩ ?_
           have hb10x : (if m.i1 = IntKind.i64.wrap (count - 1) then last else piece) = piece := if_neg hb10
           exact ⟨by unfold fitsS fitsK; simp [tupled, hb6, hb7, hb8, hb9, hb10x, hb22, hb23, hb24, hb25, hb26], H5.mask [false, true]⟩
         ·
          refine g_cond_f rfl (decide_eq_false hb25) ?_
          refine w_s ?_
          refine w_b ?_
          refine w_a ?_
          refine w_e ?_
          by_cases hb27 : (m.kind : Int) = 10
          ·
           refine g_cond_t rfl (decide_eq_true hb27) ?_
           refine g_skip ?_
           refine g_then ?_
           refine g_cond_t rfl (decide_eq_true hb27) ?_
           refine w_s ?_
           refine w_f 1 ?_
           refine w_1 H5 0 ?_
           refine w_m ?_
           refine w_b ?_
           refine w_m ?_
           by_cases hb28 : (m.i1 : Int) < count
           ·
            refine w_g (decide_eq_true hb28) (xf 2) ?_
            refine w_g (decide_eq_true hb28) (xl H5 0) ?_
            refine w_g (decide_eq_true hb28) (xf 3) ?_
            refine w_g (decide_eq_true hb28) (xl H5 0) ?_
            refine w_g (v := .int .i64 (IntKind.i64.wrap (m.i2 + m.i3))) (decide_eq_true hb28) (x_bin rfl rfl rfl (b_add rfl)) ?_
            refine w_g (decide_eq_true hb28) xm ?_
            refine w_g (decide_eq_true hb28) (x_bin rfl rfl rfl b_leq) ?_
            refine w_v (v := .bool (decide ((IntKind.i64.wrap (m.i2 + m.i3) : Int) ≤ piece))) (x_pick_t rfl rfl (decide_eq_true hb28) rfl) ?_
            refine w_a ?_
            refine w_e ?_
            refine g_weak [(8, .bool (decide ((IntKind.i64.wrap (m.i2 + m.i3) : Int) ≤ piece)))] ⟨rfl, trivial⟩ ?_
            refine g_ret ?_
            refine g_in_ret ?_
            refine g_then_ret ?_
            refine fin_ret [.tmp 8] [.bool (decide ((IntKind.i64.wrap (m.i2 + m.i3) : Int) ≤ piece))] rfl ⟨rfl, trivial⟩ ?_
            have hb10x : (if m.i1 = IntKind.i64.wrap (count - 1) then last else piece) = piece := if_neg hb10
            exact ⟨by unfold fitsS fitsK; simp [tupled, hb6, hb7, hb8, hb9, hb10x, hb22, hb23, hb24, hb25, hb27, hb28], H5.mask [false, true]⟩
           ·
            refine w_n (decide_eq_false hb28) ?_
            refine w_n (decide_eq_false hb28) ?_
            refine w_n (decide_eq_false hb28) ?_
            refine w_n (decide_eq_false hb28) ?_
            refine w_n (decide_eq_false hb28) ?_
            refine w_n (decide_eq_false hb28) ?_
            refine w_n (decide_eq_false hb28) ?_
            refine w_v (v := .bool false) (x_pick_f rfl rfl (decide_eq_false hb28) rfl) ?_
            refine w_a ?_
            refine w_e ?_
            refine g_weak [(8, .bool false)] ⟨rfl, trivial⟩ ?_
            refine g_ret ?_
            refine g_in_ret ?_
            refine g_then_ret ?_
            refine fin_ret [.tmp 8] [.bool false] rfl ⟨rfl, trivial⟩ ?_
            have hb10x : (if m.i1 = IntKind.i64.wrap (count - 1) then last else piece) = piece := if_neg hb10
            exact ⟨by unfold fitsS fitsK; simp [tupled, hb6, hb7, hb8, hb9, hb10x, hb22, hb23, hb24, hb25, hb27, hb28], H5.mask [false, true]⟩
          ·
           refine g_cond_f rfl (decide_eq_false hb27) ?_
           refine g_region ?_
           refine w_b ?_
           refine w_a ?_
           refine w_e ?_
           by_cases hb29 : (m.kind : Int) = 15
           ·
            refine g_cond_t rfl (decide_eq_true hb29) ?_
            refine w_s ?_
            refine w_f 1 ?_
            refine w_1 H5 0 ?_
            refine w_m ?_
            refine w_b ?_
            refine w_m ?_
            by_cases hb30 : (m.i1 : Int) < count
            ·
             refine w_g (decide_eq_true hb30) (xf 2) ?_
             refine w_g (decide_eq_true hb30) (xl H5 0) ?_
             refine w_g (decide_eq_true hb30) (xf 3) ?_
             refine w_g (decide_eq_true hb30) (xl H5 0) ?_
             refine w_g (v := .int .i64 (IntKind.i64.wrap (m.i2 + m.i3))) (decide_eq_true hb30) (x_bin rfl rfl rfl (b_add rfl)) ?_
             refine w_g (decide_eq_true hb30) xm ?_
             refine w_g (decide_eq_true hb30) (x_bin rfl rfl rfl b_leq) ?_
             refine w_v (v := .bool (decide ((IntKind.i64.wrap (m.i2 + m.i3) : Int) ≤ piece))) (x_pick_t rfl rfl (decide_eq_true hb30) rfl) ?_
             refine w_a ?_
             refine w_e ?_
             refine g_weak [(8, .bool (decide ((IntKind.i64.wrap (m.i2 + m.i3) : Int) ≤ piece)))] ⟨rfl, trivial⟩ ?_
             refine g_ret ?_
             refine g_in_ret ?_
             refine g_then_ret ?_
             refine fin_ret [.tmp 8] [.bool (decide ((IntKind.i64.wrap (m.i2 + m.i3) : Int) ≤ piece))] rfl ⟨rfl, trivial⟩ ?_
             have hb10x : (if m.i1 = IntKind.i64.wrap (count - 1) then last else piece) = piece := if_neg hb10
             exact ⟨by unfold fitsS fitsK; simp [tupled, hb6, hb7, hb8, hb9, hb10x, hb22, hb23, hb24, hb25, hb27, hb29, hb30], H5.mask [false, true]⟩
            ·
             refine w_n (decide_eq_false hb30) ?_
             refine w_n (decide_eq_false hb30) ?_
             refine w_n (decide_eq_false hb30) ?_
             refine w_n (decide_eq_false hb30) ?_
             refine w_n (decide_eq_false hb30) ?_
             refine w_n (decide_eq_false hb30) ?_
             refine w_n (decide_eq_false hb30) ?_
             refine w_v (v := .bool false) (x_pick_f rfl rfl (decide_eq_false hb30) rfl) ?_
             refine w_a ?_
             refine w_e ?_
             refine g_weak [(8, .bool false)] ⟨rfl, trivial⟩ ?_
             refine g_ret ?_
             refine g_in_ret ?_
             refine g_then_ret ?_
             refine fin_ret [.tmp 8] [.bool false] rfl ⟨rfl, trivial⟩ ?_
             have hb10x : (if m.i1 = IntKind.i64.wrap (count - 1) then last else piece) = piece := if_neg hb10
             exact ⟨by unfold fitsS fitsK; simp [tupled, hb6, hb7, hb8, hb9, hb10x, hb22, hb23, hb24, hb25, hb27, hb29, hb30], H5.mask [false, true]⟩
           ·
            refine g_cond_f rfl (decide_eq_false hb29) ?_
            refine w_s ?_
            refine w_b ?_
            refine w_a ?_
            refine w_e ?_
            by_cases hb31 : (m.kind : Int) = 9
            ·
             refine g_cond_t rfl (decide_eq_true hb31) ?_
             refine w_s ?_
             refine w_f 1 ?_
             refine w_1 H5 0 ?_
             refine w_m ?_
             refine w_b ?_
             refine w_m ?_
             by_cases hb32 : (m.i1 : Int) < count
             ·
              refine w_g (decide_eq_true hb32) (xf 2) ?_
              refine w_g (decide_eq_true hb32) (xl H5 0) ?_
              refine w_g (decide_eq_true hb32) (xf 7) ?_
              refine w_g (decide_eq_true hb32) (xl H5 0) ?_
              refine w_g (v := .int .i64 ((m.data.size : Int))) (decide_eq_true hb32) (x_lens rfl rfl Try.underlying9) ?_
              refine w_g (v := .int .i64 (IntKind.i64.wrap (m.i2 + (m.data.size : Int)))) (decide_eq_true hb32) (x_bin rfl rfl rfl (b_add rfl)) ?_
              refine w_g (decide_eq_true hb32) xm ?_
              refine w_g (decide_eq_true hb32) (x_bin rfl rfl rfl b_leq) ?_
              refine w_v (v := .bool (decide ((IntKind.i64.wrap (m.i2 + (m.data.size : Int)) : Int) ≤ piece))) (x_pick_t rfl rfl (decide_eq_true hb32) rfl) ?_
              refine w_a ?_
              refine w_e ?_
              refine g_weak [(8, .bool (decide ((IntKind.i64.wrap (m.i2 + (m.data.size : Int)) : Int) ≤ piece)))] ⟨rfl, trivial⟩ ?_
              refine g_ret ?_
              refine g_in_ret ?_
              refine g_then_ret ?_
              refine fin_ret [.tmp 8] [.bool (decide ((IntKind.i64.wrap (m.i2 + (m.data.size : Int)) : Int) ≤ piece))] rfl ⟨rfl, trivial⟩ ?_
              have hb10x : (if m.i1 = IntKind.i64.wrap (count - 1) then last else piece) = piece := if_neg hb10
              exact ⟨by unfold fitsS fitsK; simp [tupled, hb6, hb7, hb8, hb9, hb10x, hb22, hb23, hb24, hb25, hb27, hb29, hb31, hb32], H5.mask [false, true]⟩
             ·
              refine w_n (decide_eq_false hb32) ?_
              refine w_n (decide_eq_false hb32) ?_
              refine w_n (decide_eq_false hb32) ?_
              refine w_n (decide_eq_false hb32) ?_
              refine w_n (decide_eq_false hb32) ?_
              refine w_n (decide_eq_false hb32) ?_
              refine w_n (decide_eq_false hb32) ?_
              refine w_n (decide_eq_false hb32) ?_
              refine w_v (v := .bool false) (x_pick_f rfl rfl (decide_eq_false hb32) rfl) ?_
              refine w_a ?_
              refine w_e ?_
              refine g_weak [(8, .bool false)] ⟨rfl, trivial⟩ ?_
              refine g_ret ?_
              refine g_in_ret ?_
              refine g_then_ret ?_
              refine fin_ret [.tmp 8] [.bool false] rfl ⟨rfl, trivial⟩ ?_
              have hb10x : (if m.i1 = IntKind.i64.wrap (count - 1) then last else piece) = piece := if_neg hb10
              exact ⟨by unfold fitsS fitsK; simp [tupled, hb6, hb7, hb8, hb9, hb10x, hb22, hb23, hb24, hb25, hb27, hb29, hb31, hb32], H5.mask [false, true]⟩
            ·
             refine g_cond_f rfl (decide_eq_false hb31) ?_
             refine g_skip ?_
             refine g_in ?_
             refine g_then ?_
             refine g_weak [] trivial ?_
             refine w_s ?_
             refine w_a ?_
             refine w_e ?_
             refine g_ret ?_
             refine fin_ret [.tmp 8] [.bool true] rfl ⟨rfl, trivial⟩ ?_
             have hb10x : (if m.i1 = IntKind.i64.wrap (count - 1) then last else piece) = piece := if_neg hb10
             exact ⟨by unfold fitsS fitsK; simp [tupled, hb6, hb7, hb8, hb9, hb10x, hb22, hb23, hb24, hb25, hb27, hb29, hb31], H5.mask [false, true]⟩
 ·
  refine w_n (neg_of hb6) ?_
  refine w_n (neg_of hb6) ?_
  refine w_v (v := .bool true) (x_pick_t rfl rfl (neg_of hb6) rfl) ?_
  refine w_m ?_
  refine w_n rfl ?_
  refine w_n rfl ?_
  refine w_v (v := .bool true) (x_pick_t rfl rfl rfl rfl) ?_
  refine w_m ?_
  refine w_n rfl ?_
  refine w_n rfl ?_
  refine w_v (v := .bool true) (x_pick_t rfl rfl rfl rfl) ?_
  refine w_e ?_
  refine g_weak [(1, .int .i64 count), (2, .int .i64 piece), (3, .int .i64 last), (4, .pointer (some ⟨g1, 0, none⟩)), (24, .bool true)] ⟨rfl, rfl, rfl, rfl, rfl, trivial⟩ ?_
  refine g_cond_t rfl rfl ?_
  refine w_s ?_
  refine w_a ?_
  refine w_e ?_
  refine g_ret ?_
  refine g_then_ret ?_
  refine fin_ret [.tmp 8] [.bool false] rfl ⟨rfl, trivial⟩ ?_
  exact ⟨by unfold fitsS fitsK; simp [tupled, hb6], H5.mask [false, true]⟩
end Go.Proofs.Ytdkfkdekiljcoaa
