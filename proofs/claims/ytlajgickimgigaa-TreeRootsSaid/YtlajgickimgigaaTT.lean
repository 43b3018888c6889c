import Derived.Test.YtlajgickimgigaaTS
set_option linter.unusedSimpArgs false
set_option linter.unusedVariables false
namespace Go.Proofs.Ytlajgickimgigaa
open Go.RowKit

theorem cl73 : callable Try.prog 73 = true := by kernel_rfl
theorem lvlS_pos {k : Nat} {l : List ByteArray} (h : 0 < l.length) : ∀ j, 0 < (lvlS k l j).length
  | 0 => h
  | j + 1 => by
    have := lvlS_pos (k := k) h j
    show 0 < (nextS (k + j) (lvlS k l j)).length
    rw [nextS_len']; omega
/-- A node's uncles, the first k. -/
def uncTo (l : List ByteArray) (v i k : Nat) : List ByteArray := (List.range k).map (fun j => nodeS (v + j) (i / 2 ^ j ^^^ 1) (lvlS 0 l (v + j)))
theorem uncTo_next (l : List ByteArray) (v i k : Nat) : uncTo l v i (k + 1) = uncTo l v i k ++ [nodeS (v + k) (i / 2 ^ k ^^^ 1) (lvlS 0 l (v + k))] := by unfold uncTo; simp [List.range_succ]
theorem uncTo_len (l : List ByteArray) (v i k : Nat) : (uncTo l v i k).length = k := by unfold uncTo; simp
theorem lvlS_one (l : List ByteArray) (m : Nat) : lvlS m (lvlS 0 l m) 1 = lvlS 0 l (m + 1) := by
  show nextS (m + 0) (lvlS 0 l m) = nextS (0 + m) (lvlS 0 l m)
  rw [Nat.zero_add]; rfl
theorem layer_next (m : Nat) (l : List ByteArray) (p : Option Addr) (c : Nat) (hl : 0 < l.length) (hm : l.length ≤ 4096) (hk : m + 1 ≤ 900) (hsz : ∀ s ∈ l, s.size ≤ 65536) (w : World) (hr : Reads w p (lvlS 0 l m).length c 1 (stV (lvlS 0 l m))) :
    Calls Try.prog 51 #[.int .i64 (m : Int), .int .i64 ((m + 1 : Nat) : Int), .slice p (lvlS 0 l m).length c] w fun e w' => ∃ p' c', e = .returned (.slice p' (lvlS 0 l (m + 1)).length c') ∧ S w' ([Rw 9 1 p' (lvlS 0 l (m + 1)).length c' (stV (lvlS 0 l (m + 1)))] ++ [Old w no]) := by
  have hle := lvlS_le 0 l m
  have := layer_s m 1 (lvlS 0 l m) p _ c rfl (by omega) hk (lvlS_size (by omega) hsz m) (lvlS_pos (lvlS_pos hl m) 1) w hr
  rw [lvlS_one] at this; exact this
theorem div_next (i k : Nat) : i / 2 ^ k / 2 = i / 2 ^ (k + 1) := by rw [Nat.div_div_eq_div_mul, Nat.pow_succ]
set_option maxRecDepth 20000 in
set_option maxHeartbeats 4000000 in
set_option maxRecDepth 20000 in
set_option maxHeartbeats 4000000 in
theorem uncles_s (x : Int) (v i h : Nat) (l : List ByteArray) (p : Option Addr) (n c : Nat) (hn : n = l.length) (h1 : 1 ≤ n) (hm : n ≤ 4096) (hv : v ≤ h) (hh : h ≤ 40) (hi : i ≤ 1099511627776) (hsz : ∀ s ∈ l, s.size ≤ 65536) (w : World) (hr : Reads w p n c 1 (stV l)) :
    Calls Try.prog 70 #[.agg #[.int .i64 x, .int .i64 (h : Int)], .slice p n c, .int .i64 (v : Int), .int .i64 (i : Int)] w fun e w' => ∃ p' c', e = .returned (.slice p' (h - v) c') ∧ S w' ([Rw 9 1 p' (h - v) c' (stV (uncTo l v i (h - v)))] ++ [Old w no]) := by
  have H0 := S.old w
  refine enter 36 Try.func70 rfl rfl rfl ?_
  refine g_weak [(0, .agg #[.int .i64 x, .int .i64 ((h : Int))]), (1, .slice p n c), (2, .int .i64 ((v : Int))), (3, .int .i64 ((i : Int)))] ⟨rfl, rfl, rfl, rfl, trivial⟩ ?_
  refine g_seq ?_
  refine g_region ?_
  refine l_of (s_box H0 (wt0 rfl) rfl rfl rfl rfl ?_)
  intro g1 wq2 H3
  refine l_of (s_val (v := .slice none 0 0) (wt0 rfl) rfl rfl (x_assign rfl rfl) ?_)
  refine g_nil ?_
  refine g_then ?_
  refine g_seq ?_
  refine g_region ?_
  have H4 : S wq2 [Rw 9 1 none 0 0 (stV (uncTo l v i 0)), Ob g1 (.cells #[.int .i64 x, .int .i64 ((h : Int))] 66 (0, 0)), Old w no] := H3.nilRw 9 1
  refine l_of (s_val (v := .slice none 0 0) (wt0 rfl) rfl rfl (x_assign rfl rfl) ?_)
  refine g_nil ?_
  refine g_then ?_
  refine g_seq ?_
  refine g_region ?_
  refine l_of (s_val (v := .int .i64 ((v : Int))) (wt0 rfl) rfl rfl (x_move rfl rfl) ?_)
  refine l_of (s_val (v := .slice p n c) (wt0 rfl) rfl rfl (x_move rfl rfl) ?_)
  have hlay := layer_s 0 v l p n c hn (by omega) (by omega) hsz (lvlS_pos (by omega) v) wq2 (H4.oldReads (k := 2) rfl hr)
  rw [Nat.zero_add] at hlay
  refine l_of (s_call (wt0 rfl) (x_call' rfl rfl cl51) (hlay) ?_)
  rintro _ wq7 ⟨p5, c6, rfl, H8⟩
  replace H8 : S wq7 [Rw 9 1 p5 (lvlS 0 l (v + 0)).length c6 (stV (lvlS 0 l (v + 0))), Rw 9 1 none 0 0 (stV (uncTo l v i 0)), Ob g1 (.cells #[.int .i64 x, .int .i64 ((h : Int))] 66 (0, 0)), Old w no] := H4.absorb (new := [Rw 9 1 p5 (lvlS 0 l (v + 0)).length c6 (stV (lvlS 0 l (v + 0)))]) H8
  refine b_ret rfl rfl ?_
  refine l_of (s_val (v := .slice p5 (lvlS 0 l (v + 0)).length c6) (wt0 rfl) rfl rfl (x_assign rfl rfl) ?_)
  refine g_nil ?_
  refine g_then ?_
  refine g_seq ?_
  refine g_block ?_
  have hi0 : i = i / 2 ^ 0 := by rw [Nat.pow_zero, Nat.div_one]
  rw [hi0]
  refine g_loop (ι := Nat × Option Addr × Nat × Option Addr × Nat) (fun (k, q, d, p1, c1) => [(2, .int .i64 (((v + k : Nat) : Int))), (3, .int .i64 (((i / 2 ^ k : Nat) : Int))), (4, .pointer (some ⟨g1, 0, none⟩)), (9, .slice q k d), (10, .slice p1 (lvlS 0 l (v + k)).length c1)]) (fun (k, q, d, p1, c1) wx => (v + k ≤ h) ∧ S wx [Rw 9 1 q k d (stV (uncTo l v i k)), Rw 9 1 p1 (lvlS 0 l (v + k)).length c1 (stV (lvlS 0 l (v + k))), Ob g1 (.cells #[.int .i64 x, .int .i64 ((h : Int))] 66 (0, 0)), Old w no]) (fun (k, q, d, p1, c1) => h - (v + k)) (0, none, 0, p5, c6) ⟨rfl, rfl, rfl, rfl, rfl, trivial⟩ ⟨hv, (H8.takes [1, 0, 2, 3] (by decide))⟩ ?_
  rintro ⟨k, q, d, p1, c1⟩ wq9 ⟨hk, H10⟩
  replace H10 : S wq9 [Rw 9 1 q k d (stV (uncTo l v i k)), Rw 9 1 p1 (lvlS 0 l (v + k)).length c1 (stV (lvlS 0 l (v + k))), Ob g1 (.cells #[.int .i64 x, .int .i64 ((h : Int))] 66 (0, 0)), Old w no] := H10
  refine g_weak [(2, .int .i64 (((v + k : Nat) : Int))), (3, .int .i64 (((i / 2 ^ k : Nat) : Int))), (4, .pointer (some ⟨g1, 0, none⟩)), (9, .slice q k d), (10, .slice p1 (lvlS 0 l (v + k)).length c1)] ⟨rfl, rfl, rfl, rfl, rfl, trivial⟩ ?_
  have hik : i / 2 ^ k ≤ i := Nat.div_le_self _ _
  refine g_seq ?_
  refine g_seq ?_
  refine g_region ?_
  refine l_of (s_val (v := .int .i64 (((v + k : Nat) : Int))) (wt0 rfl) rfl rfl (x_move rfl rfl) ?_)
  refine l_of (s_val (v := .pointer (some ⟨g1, 1, none⟩)) (wt0 rfl) rfl rfl (x_fieldAddr rfl rfl fo66_1 rfl) ?_)
  refine l_of (s_val (v := .int .i64 ((h : Int))) (wt0 rfl) rfl rfl (x_load1 H10 2 rfl rfl Try.underlying3 rfl rfl rfl) ?_)
  refine l_of (s_val (v := .bool (decide ((((v + k : Nat) : Int) : Int) < (h : Int)))) (wt0 rfl) rfl rfl (x_bin rfl rfl rfl b_lss) ?_)
  refine g_nil ?_
  refine g_then ?_
  by_cases hb11 : (((v + k : Nat) : Int) : Int) < (h : Int)
  · skip
    refine g_cond_t rfl (decide_eq_true hb11) ?_
    refine g_skip ?_
    refine g_then ?_
    refine g_seq ?_
    refine g_block ?_
    refine g_seq ?_
    refine g_region ?_
    refine l_of (s_val (v := .slice q k d) (wt0 rfl) rfl rfl (x_move rfl rfl) ?_)
    refine l_of (s_val (v := .int .i64 (((v + k : Nat) : Int))) (wt0 rfl) rfl rfl (x_move rfl rfl) ?_)
    refine l_of (s_val (v := .int .i64 (((i / 2 ^ k : Nat) : Int))) (wt0 rfl) rfl rfl (x_move rfl rfl) ?_)
    refine l_of (s_val (v := .int .i64 (((i / 2 ^ k ^^^ 1 : Nat) : Int))) (wt0 rfl) rfl rfl (x_bin rfl rfl rfl (b_xorN (a := i / 2 ^ k) (b := 1) (by omega))) ?_)
    refine l_of (s_val (v := .slice p1 (lvlS 0 l (v + k)).length c1) (wt0 rfl) rfl rfl (x_move rfl rfl) ?_)
    refine l_of (s_call (wt0 rfl) (x_call' rfl rfl cl73) (node_s _ _ _ _ _ _ rfl (by omega) _ (H10.rwReads (k := 1) rfl)) ?_)
    rintro _ wq12 ⟨rfl, H13⟩
    replace H13 : S wq12 [Rw 9 1 q k d (stV (uncTo l v i k)), Rw 9 1 p1 (lvlS 0 l (v + k)).length c1 (stV (lvlS 0 l (v + k))), Ob g1 (.cells #[.int .i64 x, .int .i64 ((h : Int))] 66 (0, 0)), Old w no] := H10.absorb (new := []) H13
    refine b_ret rfl rfl ?_
    refine l_of (s_buildSlice H13 (wt0 rfl) rfl rfl rfl (vs := [.string ((nodeS (v + k) (i / 2 ^ k ^^^ 1) (lvlS 0 l (v + k))))]) rfl Try.underlying22 sz9 ze9 rfl rfl (cells := #[.string ((nodeS (v + k) (i / 2 ^ k ^^^ 1) (lvlS 0 l (v + k))))]) (by kernel_rfl) ?_)
    intro g14 wq15 H16
    refine l_of (s_appendR (n := k) (m := 1) (sc := d) (xs := (stV (uncTo l v i k))) (news := [.string ((nodeS (v + k) (i / 2 ^ k ^^^ 1) (lvlS 0 l (v + k))))]) (p := q) (ad := ⟨g14, 0, none⟩) H16 1 (wt0 rfl) rfl rfl rfl rfl rfl rfl Try.underlying22 inf9 rfl (by decide) (by decide) rfl (by decide) (news_ob H16 (j0 := 0) rfl) rfl (by omega) ?_)
    intro p17 c18 wq19 (H20 : S wq19 [Ob g14 (.cells #[.string ((nodeS (v + k) (i / 2 ^ k ^^^ 1) (lvlS 0 l (v + k))))] 9 (0, 0)), Rw 9 1 p17 (k + 1) c18 ((stV (uncTo l v i k)) ++ [.string ((nodeS (v + k) (i / 2 ^ k ^^^ 1) (lvlS 0 l (v + k))))]), Rw 9 1 p1 (lvlS 0 l (v + k)).length c1 (stV (lvlS 0 l (v + k))), Ob g1 (.cells #[.int .i64 x, .int .i64 ((h : Int))] 66 (0, 0)), Old w no])
    refine l_of (s_val (v := .slice p17 (k + 1) c18) (wt0 rfl) rfl rfl (x_assign rfl rfl) ?_)
    refine g_nil ?_
    refine g_then ?_
    refine g_weak [(2, .int .i64 (((v + k : Nat) : Int))), (3, .int .i64 (((i / 2 ^ k : Nat) : Int))), (4, .pointer (some ⟨g1, 0, none⟩)), (9, .slice p17 (k + 1) c18), (10, .slice p1 (lvlS 0 l (v + k)).length c1)] ⟨rfl, rfl, rfl, rfl, rfl, trivial⟩ ?_
    refine g_seq ?_
    refine g_region ?_
    refine l_of (s_val (v := .int .i64 (((v + k : Nat) : Int))) (wt0 rfl) rfl rfl (x_move rfl rfl) ?_)
    refine l_of (s_val (v := .int .i64 (((v + k : Nat) : Int))) (wt0 rfl) rfl rfl (x_move rfl rfl) ?_)
    refine l_of (s_val (v := .int .i64 (((v + k + 1 : Nat) : Int))) (wt0 rfl) rfl rfl (x_bin rfl rfl rfl (b_addN (a := v + k) (b := 1) (by omega))) ?_)
    refine l_of (s_val (v := .slice p1 (lvlS 0 l (v + k)).length c1) (wt0 rfl) rfl rfl (x_move rfl rfl) ?_)
    refine l_of (s_call (wt0 rfl) (x_call' rfl rfl cl51) (layer_next (v + k) l _ _ (by omega) (by omega) (by omega) hsz _ (H20.rwReads (k := 2) rfl)) ?_)
    rintro _ wq23 ⟨p21, c22, rfl, H24⟩
    replace H24 : S wq23 [Rw 9 1 p21 (lvlS 0 l (v + (k + 1))).length c22 (stV (lvlS 0 l (v + (k + 1)))), Ob g14 (.cells #[.string ((nodeS (v + k) (i / 2 ^ k ^^^ 1) (lvlS 0 l (v + k))))] 9 (0, 0)), Rw 9 1 p17 (k + 1) c18 ((stV (uncTo l v i k)) ++ [.string ((nodeS (v + k) (i / 2 ^ k ^^^ 1) (lvlS 0 l (v + k))))]), Rw 9 1 p1 (lvlS 0 l (v + k)).length c1 (stV (lvlS 0 l (v + k))), Ob g1 (.cells #[.int .i64 x, .int .i64 ((h : Int))] 66 (0, 0)), Old w no] := H20.absorb (new := [Rw 9 1 p21 (lvlS 0 l (v + (k + 1))).length c22 (stV (lvlS 0 l (v + (k + 1))))]) H24
    refine b_ret rfl rfl ?_
    refine l_of (s_val (v := .slice p21 (lvlS 0 l (v + (k + 1))).length c22) (wt0 rfl) rfl rfl (x_assign rfl rfl) ?_)
    refine g_nil ?_
    refine g_then ?_
    refine g_region ?_
    refine l_of (s_val (v := .int .i64 (((i / 2 ^ k : Nat) : Int))) (wt0 rfl) rfl rfl (x_move rfl rfl) ?_)
    refine l_of (s_val (v := .int .i64 (((i / 2 ^ (k + 1) : Nat) : Int))) (wt0 rfl) rfl rfl (x_bin rfl rfl rfl (div_next i k ▸ b_quoN (a := i / 2 ^ k) (b := 2) (by omega))) ?_)
    refine l_of (s_val (v := .int .i64 (((i / 2 ^ (k + 1) : Nat) : Int))) (wt0 rfl) rfl rfl (x_assign rfl rfl) ?_)
    refine g_nil ?_
    refine g_in ?_
    refine g_then ?_
    refine g_region ?_
    refine l_of (s_val (v := .int .i64 (((v + k : Nat) : Int))) (wt0 rfl) rfl rfl (x_move rfl rfl) ?_)
    refine l_of (s_val (v := .int .i64 (((v + (k + 1) : Nat) : Int))) (wt0 rfl) rfl rfl (x_bin rfl rfl rfl (b_addN (a := v + k) (b := 1) (by omega))) ?_)
    refine l_of (s_val (v := .int .i64 (((v + (k + 1) : Nat) : Int))) (wt0 rfl) rfl rfl (x_assign rfl rfl) ?_)
    refine g_nil ?_
    refine g_then ?_
    refine g_round (i := (k, q, d, p1, c1)) (k + 1, p17, c18, p21, c22) ?_ ?_ ?_
    · exact ⟨rfl, rfl, rfl, rfl, rfl, trivial⟩
    · exact ⟨by omega, (by rw [uncTo_next, stV_snoc]; exact (H24.takes [2, 0, 4, 5] (by decide)))⟩
    · (try dsimp only); omega
  · skip
    refine g_cond_f rfl (decide_eq_false hb11) ?_
    refine g_exit ?_
    refine g_then_exit ?_
    refine g_then_exit ?_
    refine g_in_hit ?_
    refine g_then ?_
    refine g_seq ?_
    refine g_region ?_
    refine l_of (s_val (v := .slice q k d) (wt0 rfl) rfl rfl (x_move rfl rfl) ?_)
    refine l_of (s_val (v := .slice q k d) (wt0 rfl) rfl rfl (x_assign rfl rfl) ?_)
    refine g_nil ?_
    refine g_then ?_
    refine g_ret ?_
    refine fin_ret [.tmp 8] [.slice q k d] rfl ⟨rfl, trivial⟩ ?_
    have hkh : k = h - v := by omega
    subst hkh
    rw [← hi0]
    exact ⟨_, _, rfl, H10.takes [0, 3] (by decide)⟩
end Go.Proofs.Ytlajgickimgigaa
