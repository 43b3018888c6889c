import Derived.Test.YtlajgickimgigaaUA
set_option linter.unusedSimpArgs false
set_option linter.unusedVariables false
namespace Go.Proofs.Ytlajgickimgigaa
open Go.RowKit

/-- A piece of data. -/
def chunkB (s : ByteArray) (k : Nat) : ByteArray := s.extract (16 * k) (min (16 * k + 16) s.size)
def leafTo (s : ByteArray) (k : Nat) : List ByteArray := (List.range k).map (fun i => sumS (chunkB s i))
theorem leafTo_next (s : ByteArray) (k : Nat) : leafTo s (k + 1) = leafTo s k ++ [sumS (chunkB s k)] := by unfold leafTo; simp [List.range_succ]
theorem leafTo_len (s : ByteArray) (k : Nat) : (leafTo s k).length = k := by unfold leafTo; simp
theorem chunkB_size {s : ByteArray} {k : Nat} (h : 16 * k < s.size) : (chunkB s k).size = min 16 (s.size - 16 * k) := by unfold chunkB; rw [ByteArray.size_extract]; omega
/-- Leaves. -/
def leavesS (s : ByteArray) : List ByteArray × Int := if s.size = 0 then ([], 11) else if 65536 < s.size then ([], 4) else (leafTo s ((s.size + 15) / 16), 0)
theorem empty_iff (s : ByteArray) : s = ⟨#[]⟩ ↔ s.size = 0 := by
  constructor
  · intro h; rw [h]; rfl
  · intro h
    apply ByteArray.ext
    apply Array.eq_empty_of_size_eq_zero
    exact h
set_option maxRecDepth 20000 in
set_option maxHeartbeats 4000000 in
set_option maxRecDepth 20000 in
set_option maxHeartbeats 4000000 in
theorem leaves_r (s : ByteArray) (w : World) : Calls Try.prog 14 #[.string s] w fun e w' => ∃ p c, e = .returned (.tuple #[.slice p (leavesS s).1.length c, .int .i64 (leavesS s).2]) ∧ S w' ([Rw 9 1 p (leavesS s).1.length c (stV (leavesS s).1)] ++ [Old w no]) := by
  have H0 := S.old w
  refine enter 32 Try.func14 rfl rfl rfl ?_
  refine g_weak [(0, .string s)] ⟨rfl, trivial⟩ ?_
  refine g_seq ?_
  refine g_region ?_
  refine l_of (s_val (v := .slice none 0 0) (wt0 rfl) rfl rfl (x_assign rfl rfl) ?_)
  refine l_of (s_val (v := .int .i64 0) (wt0 rfl) rfl rfl (x_assign rfl rfl) ?_)
  refine g_nil ?_
  refine g_then ?_
  refine g_seq ?_
  refine g_block ?_
  refine g_seq ?_
  refine g_region ?_
  refine l_of (s_val (v := .string s) (wt0 rfl) rfl rfl (x_move rfl rfl) ?_)
  refine l_of (s_val (v := .bool (decide (s = ⟨#[]⟩))) (wt0 rfl) rfl rfl (x_bin rfl rfl rfl b_eqs) ?_)
  refine l_of (s_val (v := .bool (decide (s = ⟨#[]⟩))) (wt0 rfl) rfl rfl (x_assign rfl rfl) ?_)
  refine g_nil ?_
  refine g_then ?_
  by_cases hb1 : s = ⟨#[]⟩
  · skip
    refine g_cond_t rfl (decide_eq_true hb1) ?_
    refine g_seq ?_
    refine g_region ?_
    refine l_of (s_val (v := .slice none 0 0) (wt0 rfl) rfl rfl (x_assign rfl rfl) ?_)
    refine l_of (s_val (v := .int .i64 11) (wt0 rfl) rfl rfl (x_assign rfl rfl) ?_)
    refine g_nil ?_
    refine g_then ?_
    refine g_ret ?_
    refine g_in_ret ?_
    refine g_then_ret ?_
    refine fin_ret [.tmp 2, .tmp 3] [.slice none 0 0, .int .i64 11] rfl ⟨rfl, rfl, trivial⟩ ?_
    have hd : leavesS s = ([], 11) := by unfold leavesS; rw [if_pos ((empty_iff s).1 hb1)]
    rw [hd]
    exact ⟨none, 0, rfl, (H0.takes [0] (by decide)).nilRw 9 1⟩
  · skip
    have hsz0 : ¬ s.size = 0 := fun h => hb1 ((empty_iff s).2 h)
    refine g_cond_f rfl (decide_eq_false hb1) ?_
    refine g_seq ?_
    refine g_region ?_
    refine l_of (s_val (v := .string s) (wt0 rfl) rfl rfl (x_move rfl rfl) ?_)
    refine l_of (s_val (v := .int .i64 ((s.size : Int))) (wt0 rfl) rfl rfl (x_lens rfl rfl Try.underlying9) ?_)
    refine l_of (s_val (v := .bool (decide ((65536 : Int) < (s.size : Int)))) (wt0 rfl) rfl rfl (x_bin rfl rfl rfl b_gtr) ?_)
    refine l_of (s_val (v := .bool (decide ((65536 : Int) < (s.size : Int)))) (wt0 rfl) rfl rfl (x_assign rfl rfl) ?_)
    refine g_nil ?_
    refine g_then ?_
    by_cases hb2 : (65536 : Int) < (s.size : Int)
    · skip
      refine g_cond_t rfl (decide_eq_true hb2) ?_
      refine g_seq ?_
      refine g_region ?_
      refine l_of (s_val (v := .slice none 0 0) (wt0 rfl) rfl rfl (x_assign rfl rfl) ?_)
      refine l_of (s_val (v := .int .i64 4) (wt0 rfl) rfl rfl (x_assign rfl rfl) ?_)
      refine g_nil ?_
      refine g_then ?_
      refine g_ret ?_
      refine g_in_ret ?_
      refine g_then_ret ?_
      refine fin_ret [.tmp 2, .tmp 3] [.slice none 0 0, .int .i64 4] rfl ⟨rfl, rfl, trivial⟩ ?_
      have hd : leavesS s = ([], 4) := by unfold leavesS; rw [if_neg (fun h => hb1 ((empty_iff s).2 h)), if_pos (by omega)]
      rw [hd]
      exact ⟨none, 0, rfl, (H0.takes [0] (by decide)).nilRw 9 1⟩
    · skip
      refine g_cond_f rfl (decide_eq_false hb2) ?_
      refine g_skip ?_
      refine g_in ?_
      refine g_then ?_
      refine g_seq ?_
      refine g_region ?_
      have H3 : S w [Rw 9 1 none 0 0 (stV (leafTo s 0)), Old w no] := H0.nilRw 9 1
      refine l_of (s_val (v := .slice none 0 0) (wt0 rfl) rfl rfl (x_assign rfl rfl) ?_)
      refine g_nil ?_
      refine g_then ?_
      refine g_seq ?_
      refine g_seq ?_
      refine g_region ?_
      refine l_of (s_val (v := .int .i64 0) (wt0 rfl) rfl rfl (x_assign rfl rfl) ?_)
      refine g_nil ?_
      refine g_then ?_
      refine g_block ?_
      refine g_loop (ι := Nat × Option Addr × Nat) (fun (k, q, d) => [(0, .string s), (4, .slice q k d), (5, .int .i64 (((16 * k : Nat) : Int)))]) (fun (k, q, d) wx => (k ≤ (s.size + 15) / 16) ∧ S wx [Rw 9 1 q k d (stV (leafTo s k)), Old w no]) (fun (k, q, d) => (s.size + 15) / 16 - k) (0, none, 0) ⟨rfl, rfl, rfl, trivial⟩ ⟨Nat.zero_le _, (H3.takes [0, 1] (by decide))⟩ ?_
      rintro ⟨k, q, d⟩ wq4 ⟨hk, H5⟩
      replace H5 : S wq4 [Rw 9 1 q k d (stV (leafTo s k)), Old w no] := H5
      refine g_weak [(0, .string s), (4, .slice q k d), (5, .int .i64 (((16 * k : Nat) : Int)))] ⟨rfl, rfl, rfl, trivial⟩ ?_
      refine g_seq ?_
      refine g_seq ?_
      refine g_region ?_
      refine l_of (s_val (v := .int .i64 (((16 * k : Nat) : Int))) (wt0 rfl) rfl rfl (x_move rfl rfl) ?_)
      refine l_of (s_val (v := .string s) (wt0 rfl) rfl rfl (x_move rfl rfl) ?_)
      refine l_of (s_val (v := .int .i64 ((s.size : Int))) (wt0 rfl) rfl rfl (x_lens rfl rfl Try.underlying9) ?_)
      refine l_of (s_val (v := .bool (decide ((((16 * k : Nat) : Int) : Int) < (s.size : Int)))) (wt0 rfl) rfl rfl (x_bin rfl rfl rfl b_lss) ?_)
      refine g_nil ?_
      refine g_then ?_
      by_cases hb6 : (((16 * k : Nat) : Int) : Int) < (s.size : Int)
      · skip
        refine g_cond_t rfl (decide_eq_true hb6) ?_
        refine g_skip ?_
        refine g_then ?_
        refine g_seq ?_
        refine g_block ?_
        refine g_region ?_
        refine l_of (s_val (v := .slice q k d) (wt0 rfl) rfl rfl (x_move rfl rfl) ?_)
        refine l_of (s_val (v := .string s) (wt0 rfl) rfl rfl (x_move rfl rfl) ?_)
        refine l_of (s_val (v := .int .i64 (((16 * k : Nat) : Int))) (wt0 rfl) rfl rfl (x_move rfl rfl) ?_)
        refine l_of (s_val (v := .int .i64 (((16 * k : Nat) : Int))) (wt0 rfl) rfl rfl (x_move rfl rfl) ?_)
        refine l_of (s_val (v := .int .i64 (((16 * k + 16 : Nat) : Int))) (wt0 rfl) rfl rfl (x_bin rfl rfl rfl (b_addN (a := 16 * k) (b := 16) (by omega))) ?_)
        refine l_of (s_val (v := .string s) (wt0 rfl) rfl rfl (x_move rfl rfl) ?_)
        refine l_of (s_val (v := .int .i64 ((s.size : Int))) (wt0 rfl) rfl rfl (x_lens rfl rfl Try.underlying9) ?_)
        refine l_of (s_val (v := .int .i64 (((min (16 * k + 16) s.size : Nat) : Int))) (wt0 rfl) rfl rfl (ex_cast (x_min rfl rfl rfl) (congrArg (Value.int .i64) (show _ = ((min (16 * k + 16) s.size : Nat) : Int) by omega))) ?_)
        have hcz : (chunkB s k).size = min 16 (s.size - 16 * k) := chunkB_size (by omega)
        refine l_of (s_val (v := .string ((chunkB s k))) (wt0 rfl) rfl rfl (x_slices (16 * k) (min (16 * k + 16) s.size) rfl rfl Try.underlying9 (.inr ⟨_, _, _, rfl, rfl, by omega⟩) (.inr ⟨_, _, _, rfl, rfl, by omega⟩) (by omega)) ?_)
        refine l_of (s_call (wt0 rfl) (x_call' rfl rfl cl57) (sum_r _ (by omega) _) ?_)
        rintro _ wq7 ⟨rfl, H8⟩
        replace H8 : S wq7 [Rw 9 1 q k d (stV (leafTo s k)), Old w no] := H5.absorb (new := []) H8
        refine b_ret rfl rfl ?_
        refine l_of (s_buildSlice H8 (wt0 rfl) rfl rfl rfl (vs := [.string ((sumS (chunkB s k)))]) rfl Try.underlying22 sz9 ze9 rfl rfl (cells := #[.string ((sumS (chunkB s k)))]) (by kernel_rfl) ?_)
        intro g9 wq10 H11
        refine l_of (s_appendR (n := k) (m := 1) (sc := d) (xs := (stV (leafTo s k))) (news := [.string ((sumS (chunkB s k)))]) (p := q) (ad := ⟨g9, 0, none⟩) H11 1 (wt0 rfl) rfl rfl rfl rfl rfl rfl Try.underlying22 inf9 rfl (by decide) (by decide) rfl (by decide) (news_ob H11 (j0 := 0) rfl) rfl (by omega) ?_)
        intro p12 c13 wq14 (H15 : S wq14 [Ob g9 (.cells #[.string ((sumS (chunkB s k)))] 9 (0, 0)), Rw 9 1 p12 (k + 1) c13 ((stV (leafTo s k)) ++ [.string ((sumS (chunkB s k)))]), Old w no])
        refine l_of (s_val (v := .slice p12 (k + 1) c13) (wt0 rfl) rfl rfl (x_assign rfl rfl) ?_)
        refine g_nil ?_
        refine g_in ?_
        refine g_then ?_
        refine g_weak [(0, .string s), (4, .slice p12 (k + 1) c13), (5, .int .i64 (((16 * k : Nat) : Int)))] ⟨rfl, rfl, rfl, trivial⟩ ?_
        refine g_region ?_
        refine l_of (s_val (v := .int .i64 (((16 * k : Nat) : Int))) (wt0 rfl) rfl rfl (x_move rfl rfl) ?_)
        refine l_of (s_val (v := .int .i64 (((16 * (k + 1) : Nat) : Int))) (wt0 rfl) rfl rfl (x_bin rfl rfl rfl (b_addN (a := 16 * k) (b := 16) (by omega))) ?_)
        refine l_of (s_val (v := .int .i64 (((16 * (k + 1) : Nat) : Int))) (wt0 rfl) rfl rfl (x_assign rfl rfl) ?_)
        refine g_nil ?_
        refine g_then ?_
        refine g_round (i := (k, q, d)) (k + 1, p12, c13) ?_ ?_ ?_
        · exact ⟨rfl, rfl, rfl, trivial⟩
        · exact ⟨by omega, (by rw [leafTo_next, stV_snoc]; exact (H15.takes [1, 2] (by decide)))⟩
        · (try dsimp only); omega
      · skip
        refine g_cond_f rfl (decide_eq_false hb6) ?_
        refine g_exit ?_
        refine g_then_exit ?_
        refine g_then_exit ?_
        refine g_in_hit ?_
        refine g_then ?_
        refine g_seq ?_
        refine g_region ?_
        refine l_of (s_val (v := .slice q k d) (wt0 rfl) rfl rfl (x_move rfl rfl) ?_)
        refine l_of (s_val (v := .slice q k d) (wt0 rfl) rfl rfl (x_assign rfl rfl) ?_)
        refine l_of (s_val (v := .int .i64 0) (wt0 rfl) rfl rfl (x_assign rfl rfl) ?_)
        refine g_nil ?_
        refine g_then ?_
        refine g_ret ?_
        refine fin_ret [.tmp 2, .tmp 3] [.slice q k d, .int .i64 0] rfl ⟨rfl, rfl, trivial⟩ ?_
        have hd : leavesS s = (leafTo s ((s.size + 15) / 16), 0) := by unfold leavesS; rw [if_neg (fun h => hb1 ((empty_iff s).2 h)), if_neg (by omega)]
        rw [hd]
        have HF := H5.takes [0, 1] (by decide)
        have hkq : k = (s.size + 15) / 16 := by omega
        subst hkq
        simp only [leafTo_len]
        exact ⟨_, _, rfl, HF⟩
end Go.Proofs.Ytlajgickimgigaa
