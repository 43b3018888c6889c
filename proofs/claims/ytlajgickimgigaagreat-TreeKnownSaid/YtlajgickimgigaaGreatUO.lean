import Derived.Test.YtlajgickimgigaaGreatUN
set_option linter.unusedSimpArgs false
set_option linter.unusedVariables false
namespace Go.Proofs.YtlajgickimgigaaGreat
open Go.RowKit

theorem cl54 : callable Tryz.prog 54 = true := by kernel_rfl
theorem sib_lt {b t : Nat} (h : b < 2 ^ t) (ht : 0 < t) : sibN b < 2 ^ t := by
  have e : 2 ^ t = 2 * 2 ^ (t - 1) := by
    conv => lhs; rw [show t = (t - 1) + 1 from by omega, Nat.pow_succ]
    omega
  unfold sibN
  split <;> omega
theorem sib_le (b : Nat) : sibN b ≤ b + 1 := by unfold sibN; split <;> omega
theorem row_node {l : List ByteArray} {a b : Nat} (h1 : 1 ≤ l.length) (hn : l.length ≤ 1099511627776) (ha : a < tallN l.length) (hb : b < 2 ^ (tallN l.length - a)) : (upN a (rowT l.length 0 l)).getD (sibN b) ⟨#[]⟩ = nodeS a (b ^^^ 1) (lvlS 0 l a) := by
  have := nodeT_S h1 hn (by omega) (sib_lt hb (by omega))
  rw [sib_xor] at this ⊢
  exact this
theorem two_sub (h : Nat) (v : Int) (h0 : 0 ≤ v) (hv : v ≤ (h : Int)) (hh : h ≤ 60) (w : World) : Calls Tryz.prog 40 #[.int .i64 ((h : Int) - v)] w fun e w' => e = .returned (.int .i64 ((2 ^ (h - v.toNat) : Nat) : Int)) ∧ S w' [Old w no] := by
  have e : (h : Int) - v = ((h - v.toNat : Nat) : Int) := by omega
  rw [e]; exact two_r _ (by omega) w
theorem take_stV (l : List ByteArray) (a m : Nat) : ((stV l).drop (a * 1)).take (m * 1) = stV ((l.drop a).take m) := by
  unfold stV; rw [Nat.mul_one, Nat.mul_one, List.map_take, List.map_drop]
set_option maxRecDepth 20000 in
set_option maxHeartbeats 4000000 in
set_option maxRecDepth 20000 in
set_option maxHeartbeats 4000000 in
theorem uncles_r (l : List ByteArray) (p : Option Addr) (n c : Nat) (hn : n = l.length) (hm : n ≤ 1099511627776) (v i : Int) (w : World) (hr : Reads w p n c 1 (stV l)) : Calls Tryz.prog 43 #[.slice p n c, .int .i64 v, .int .i64 i] w fun e w' => ∃ p' c', e = .returned (.tuple #[.slice p' (unclesS l v i).1.length c', .int .i64 (unclesS l v i).2]) ∧ S w' ([Rw 9 1 p' (unclesS l v i).1.length c' (stV (unclesS l v i).1)] ++ [Old w no]) := by
  have H0 := S.old w
  refine enter 60 Tryz.func43 rfl rfl rfl ?_
  refine g_weak [(0, .slice p n c), (1, .int .i64 v), (2, .int .i64 i)] ⟨rfl, rfl, rfl, trivial⟩ ?_
  refine g_seq ?_
  refine g_region ?_
  refine l_of (s_val (v := .slice none 0 0) (wt0 rfl) rfl rfl (x_assign rfl rfl) ?_)
  refine l_of (s_val (v := .int .i64 0) (wt0 rfl) rfl rfl (x_assign rfl rfl) ?_)
  refine g_nil ?_
  refine g_then ?_
  refine g_seq ?_
  refine g_seq ?_
  refine g_region ?_
  refine l_of (s_val (v := .slice p n c) (wt0 rfl) rfl rfl (x_move rfl rfl) ?_)
  refine l_of (s_call (wt0 rfl) (x_call' rfl rfl cl41) (check_r l p n c hn hm _ (H0.oldReads (k := 0) rfl hr)) ?_)
  rintro _ wq1 ⟨rfl, H2⟩
  replace H2 : S wq1 [Old w no] := H0.absorb (new := []) H2
  refine b_ret rfl rfl ?_
  refine l_of (s_val (v := .int .i64 (checkE l)) (wt0 rfl) rfl rfl (x_assign rfl rfl) ?_)
  refine g_nil ?_
  refine g_then ?_
  refine g_seq ?_
  refine g_region ?_
  refine l_of (s_val (v := .int .i64 (checkE l)) (wt0 rfl) rfl rfl (x_move rfl rfl) ?_)
  refine l_of (s_val (v := .bool (!decide ((checkE l : Int) = 0))) (wt0 rfl) rfl rfl (x_bin rfl rfl rfl b_neq) ?_)
  refine g_nil ?_
  refine g_then ?_
  by_cases hb3 : (checkE l : Int) = 0
  · skip
    obtain ⟨hc1, hc2, hc3⟩ := check_spec hb3
    have ht12 := tall_le12 hc2
    refine g_cond_f rfl (nf hb3) ?_
    refine g_skip ?_
    refine g_then ?_
    refine g_seq ?_
    refine g_region ?_
    refine l_of (s_val (v := .slice p n c) (wt0 rfl) rfl rfl (x_move rfl rfl) ?_)
    refine l_of (s_val (v := .int .i64 ((n : Int))) (wt0 rfl) rfl rfl (x_lenl rfl rfl Tryz.underlying22) ?_)
    refine l_of (s_call (wt0 rfl) (x_call' rfl rfl cl38) (tall_n' hn (by omega) _) ?_)
    rintro _ wq4 ⟨rfl, H5⟩
    replace H5 : S wq4 [Old w no] := H2.absorb (new := []) H5
    refine b_ret rfl rfl ?_
    refine l_of (s_val (v := .int .i64 ((((tallN l.length) : Nat) : Int))) (wt0 rfl) rfl rfl (x_assign rfl rfl) ?_)
    refine g_nil ?_
    refine g_then ?_
    refine g_seq ?_
    refine g_seq ?_
    refine g_region ?_
    refine l_of (s_val (v := .int .i64 v) (wt0 rfl) rfl rfl (x_move rfl rfl) ?_)
    refine l_of (s_val (v := .bool (decide ((v : Int) < 0))) (wt0 rfl) rfl rfl (x_bin rfl rfl rfl b_lss) ?_)
    refine l_of (s_val (v := .bool (decide ((v : Int) < 0))) (wt0 rfl) rfl rfl (x_move rfl rfl) ?_)
    by_cases hb6 : (v : Int) < 0
    · skip
      refine l_of (s_not (wn1 rfl rfl rfl rfl (decide_eq_true hb6)) rfl rfl ?_)
      refine l_of (s_not (wn1 rfl rfl rfl rfl (decide_eq_true hb6)) rfl rfl ?_)
      refine l_of (s_not (wn1 rfl rfl rfl rfl (decide_eq_true hb6)) rfl rfl ?_)
      refine l_of (s_val (v := .bool true) (wt0 rfl) rfl rfl (x_pick_t rfl rfl (decide_eq_true hb6) rfl) ?_)
      refine l_of (s_val (v := .bool true) (wt0 rfl) rfl rfl (x_move rfl rfl) ?_)
      refine l_of (s_not (wn1 rfl rfl rfl rfl rfl) rfl rfl ?_)
      refine l_of (s_not (wn1 rfl rfl rfl rfl rfl) rfl rfl ?_)
      refine l_of (s_val (v := .bool true) (wt0 rfl) rfl rfl (x_pick_t rfl rfl rfl rfl) ?_)
      refine l_of (s_val (v := .bool true) (wt0 rfl) rfl rfl (x_move rfl rfl) ?_)
      refine l_of (s_not (wn1 rfl rfl rfl rfl rfl) rfl rfl ?_)
      refine l_of (s_not (wn1 rfl rfl rfl rfl rfl) rfl rfl ?_)
      refine l_of (s_not (wn1 rfl rfl rfl rfl rfl) rfl rfl ?_)
      refine l_of (s_not (wn1 rfl rfl rfl rfl rfl) rfl rfl ?_)
      refine l_of (s_not (wn1 rfl rfl rfl rfl rfl) rfl rfl ?_)
      refine l_of (s_not (wn1 rfl rfl rfl rfl rfl) rfl rfl ?_)
      refine l_of (s_val (v := .bool true) (wt0 rfl) rfl rfl (x_pick_t rfl rfl rfl rfl) ?_)
      refine g_nil ?_
      refine g_then ?_
      refine g_weak [(0, .slice p n c), (1, .int .i64 v), (2, .int .i64 i), (9, .int .i64 ((((tallN l.length) : Nat) : Int))), (38, .bool true)] ⟨rfl, rfl, rfl, rfl, rfl, trivial⟩ ?_
      refine g_cond_t rfl rfl ?_
      refine g_seq ?_
      refine g_region ?_
      refine l_of (s_val (v := .slice none 0 0) (wt0 rfl) rfl rfl (x_assign rfl rfl) ?_)
      refine l_of (s_val (v := .int .i64 7) (wt0 rfl) rfl rfl (x_assign rfl rfl) ?_)
      refine g_nil ?_
      refine g_then ?_
      refine g_ret ?_
      refine g_then_ret ?_
      refine fin_ret [.tmp 6, .tmp 7] [.slice none 0 0, .int .i64 7] rfl ⟨rfl, rfl, trivial⟩ ?_
      have hd : unclesS l v i = ([], 7) := by unfold unclesS; rw [if_pos (by omega), if_neg (by rw [nodeOk_f (by omega)]; exact Bool.false_ne_true)]
      rw [hd]
      exact ⟨none, 0, rfl, (H5.takes [0] (by decide)).nilRw 9 1⟩
    · skip
      refine l_of (s_val (v := .int .i64 v) (wt1 rfl rfl rfl rfl (decide_eq_false hb6)) rfl rfl (x_move rfl rfl) ?_)
      refine l_of (s_val (v := .int .i64 ((((tallN l.length) : Nat) : Int))) (wt1 rfl rfl rfl rfl (decide_eq_false hb6)) rfl rfl (x_move rfl rfl) ?_)
      refine l_of (s_val (v := .bool (decide (((((tallN l.length) : Nat) : Int) : Int) < v))) (wt1 rfl rfl rfl rfl (decide_eq_false hb6)) rfl rfl (x_bin rfl rfl rfl b_gtr) ?_)
      refine l_of (s_val (v := .bool (decide (((((tallN l.length) : Nat) : Int) : Int) < v))) (wt0 rfl) rfl rfl (x_pick_f rfl rfl (decide_eq_false hb6) rfl) ?_)
      refine l_of (s_val (v := .bool (decide (((((tallN l.length) : Nat) : Int) : Int) < v))) (wt0 rfl) rfl rfl (x_move rfl rfl) ?_)
      by_cases hb7 : ((((tallN l.length) : Nat) : Int) : Int) < v
      · skip
        refine l_of (s_not (wn1 rfl rfl rfl rfl (decide_eq_true hb7)) rfl rfl ?_)
        refine l_of (s_not (wn1 rfl rfl rfl rfl (decide_eq_true hb7)) rfl rfl ?_)
        refine l_of (s_val (v := .bool true) (wt0 rfl) rfl rfl (x_pick_t rfl rfl (decide_eq_true hb7) rfl) ?_)
        refine l_of (s_val (v := .bool true) (wt0 rfl) rfl rfl (x_move rfl rfl) ?_)
        refine l_of (s_not (wn1 rfl rfl rfl rfl rfl) rfl rfl ?_)
        refine l_of (s_not (wn1 rfl rfl rfl rfl rfl) rfl rfl ?_)
        refine l_of (s_not (wn1 rfl rfl rfl rfl rfl) rfl rfl ?_)
        refine l_of (s_not (wn1 rfl rfl rfl rfl rfl) rfl rfl ?_)
        refine l_of (s_not (wn1 rfl rfl rfl rfl rfl) rfl rfl ?_)
        refine l_of (s_not (wn1 rfl rfl rfl rfl rfl) rfl rfl ?_)
        refine l_of (s_val (v := .bool true) (wt0 rfl) rfl rfl (x_pick_t rfl rfl rfl rfl) ?_)
        refine g_nil ?_
        refine g_then ?_
        refine g_weak [(0, .slice p n c), (1, .int .i64 v), (2, .int .i64 i), (9, .int .i64 ((((tallN l.length) : Nat) : Int))), (38, .bool true)] ⟨rfl, rfl, rfl, rfl, rfl, trivial⟩ ?_
        refine g_cond_t rfl rfl ?_
        refine g_seq ?_
        refine g_region ?_
        refine l_of (s_val (v := .slice none 0 0) (wt0 rfl) rfl rfl (x_assign rfl rfl) ?_)
        refine l_of (s_val (v := .int .i64 7) (wt0 rfl) rfl rfl (x_assign rfl rfl) ?_)
        refine g_nil ?_
        refine g_then ?_
        refine g_ret ?_
        refine g_then_ret ?_
        refine fin_ret [.tmp 6, .tmp 7] [.slice none 0 0, .int .i64 7] rfl ⟨rfl, rfl, trivial⟩ ?_
        have hd : unclesS l v i = ([], 7) := by unfold unclesS; rw [if_pos (by omega), if_neg (by rw [nodeOk_f (by omega)]; exact Bool.false_ne_true)]
        rw [hd]
        exact ⟨none, 0, rfl, (H5.takes [0] (by decide)).nilRw 9 1⟩
      · skip
        refine l_of (s_val (v := .int .i64 i) (wt1 rfl rfl rfl rfl (decide_eq_false hb7)) rfl rfl (x_move rfl rfl) ?_)
        refine l_of (s_val (v := .bool (decide ((i : Int) < 0))) (wt1 rfl rfl rfl rfl (decide_eq_false hb7)) rfl rfl (x_bin rfl rfl rfl b_lss) ?_)
        refine l_of (s_val (v := .bool (decide ((i : Int) < 0))) (wt0 rfl) rfl rfl (x_pick_f rfl rfl (decide_eq_false hb7) rfl) ?_)
        refine l_of (s_val (v := .bool (decide ((i : Int) < 0))) (wt0 rfl) rfl rfl (x_move rfl rfl) ?_)
        by_cases hb8 : (i : Int) < 0
        · skip
          refine l_of (s_not (wn1 rfl rfl rfl rfl (decide_eq_true hb8)) rfl rfl ?_)
          refine l_of (s_not (wn1 rfl rfl rfl rfl (decide_eq_true hb8)) rfl rfl ?_)
          refine l_of (s_not (wn1 rfl rfl rfl rfl (decide_eq_true hb8)) rfl rfl ?_)
          refine l_of (s_not (wn1 rfl rfl rfl rfl (decide_eq_true hb8)) rfl rfl ?_)
          refine l_of (s_not (wn1 rfl rfl rfl rfl (decide_eq_true hb8)) rfl rfl ?_)
          refine l_of (s_not (wn1 rfl rfl rfl rfl (decide_eq_true hb8)) rfl rfl ?_)
          refine l_of (s_val (v := .bool true) (wt0 rfl) rfl rfl (x_pick_t rfl rfl (decide_eq_true hb8) rfl) ?_)
          refine g_nil ?_
          refine g_then ?_
          refine g_weak [(0, .slice p n c), (1, .int .i64 v), (2, .int .i64 i), (9, .int .i64 ((((tallN l.length) : Nat) : Int))), (38, .bool true)] ⟨rfl, rfl, rfl, rfl, rfl, trivial⟩ ?_
          refine g_cond_t rfl rfl ?_
          refine g_seq ?_
          refine g_region ?_
          refine l_of (s_val (v := .slice none 0 0) (wt0 rfl) rfl rfl (x_assign rfl rfl) ?_)
          refine l_of (s_val (v := .int .i64 7) (wt0 rfl) rfl rfl (x_assign rfl rfl) ?_)
          refine g_nil ?_
          refine g_then ?_
          refine g_ret ?_
          refine g_then_ret ?_
          refine fin_ret [.tmp 6, .tmp 7] [.slice none 0 0, .int .i64 7] rfl ⟨rfl, rfl, trivial⟩ ?_
          have hd : unclesS l v i = ([], 7) := by unfold unclesS; rw [if_pos (by omega), if_neg (by rw [nodeOk_f (by omega)]; exact Bool.false_ne_true)]
          rw [hd]
          exact ⟨none, 0, rfl, (H5.takes [0] (by decide)).nilRw 9 1⟩
        · skip
          refine l_of (s_val (v := .int .i64 i) (wt1 rfl rfl rfl rfl (decide_eq_false hb8)) rfl rfl (x_move rfl rfl) ?_)
          refine l_of (s_val (v := .int .i64 ((((tallN l.length) : Nat) : Int))) (wt1 rfl rfl rfl rfl (decide_eq_false hb8)) rfl rfl (x_move rfl rfl) ?_)
          refine l_of (s_val (v := .int .i64 v) (wt1 rfl rfl rfl rfl (decide_eq_false hb8)) rfl rfl (x_move rfl rfl) ?_)
          refine l_of (s_val (v := .int .i64 ((((tallN l.length) : Nat) : Int) - v)) (wt1 rfl rfl rfl rfl (decide_eq_false hb8)) rfl rfl (x_bin rfl rfl rfl (b_sub (w64 (by omega)))) ?_)
          refine l_of (s_call (wt1 rfl rfl rfl rfl (decide_eq_false hb8)) (x_call' rfl rfl cl40) (two_sub (tallN l.length) v (by omega) (by omega) (by omega) _) ?_)
          rintro _ wq9 ⟨rfl, H10⟩
          replace H10 : S wq9 [Old w no] := H5.absorb (new := []) H10
          refine b_ret rfl rfl ?_
          refine l_of (s_val (v := .bool (decide ((((2 ^ ((tallN l.length) - v.toNat) : Nat) : Int) : Int) ≤ i))) (wt1 rfl rfl rfl rfl (decide_eq_false hb8)) rfl rfl (x_bin rfl rfl rfl b_geq) ?_)
          refine l_of (s_val (v := .bool (decide ((((2 ^ ((tallN l.length) - v.toNat) : Nat) : Int) : Int) ≤ i))) (wt0 rfl) rfl rfl (x_pick_f rfl rfl (decide_eq_false hb8) rfl) ?_)
          refine g_nil ?_
          refine g_then ?_
          refine g_weak [(0, .slice p n c), (1, .int .i64 v), (2, .int .i64 i), (9, .int .i64 ((((tallN l.length) : Nat) : Int))), (38, .bool (decide ((((2 ^ ((tallN l.length) - v.toNat) : Nat) : Int) : Int) ≤ i)))] ⟨rfl, rfl, rfl, rfl, rfl, trivial⟩ ?_
          by_cases hb11 : (((2 ^ ((tallN l.length) - v.toNat) : Nat) : Int) : Int) ≤ i
          · skip
            refine g_cond_t rfl (decide_eq_true hb11) ?_
            refine g_seq ?_
            refine g_region ?_
            refine l_of (s_val (v := .slice none 0 0) (wt0 rfl) rfl rfl (x_assign rfl rfl) ?_)
            refine l_of (s_val (v := .int .i64 7) (wt0 rfl) rfl rfl (x_assign rfl rfl) ?_)
            refine g_nil ?_
            refine g_then ?_
            refine g_ret ?_
            refine g_then_ret ?_
            refine fin_ret [.tmp 6, .tmp 7] [.slice none 0 0, .int .i64 7] rfl ⟨rfl, rfl, trivial⟩ ?_
            have hd : unclesS l v i = ([], 7) := by unfold unclesS; rw [if_pos (by omega), if_neg (by rw [nodeOk_f (by omega)]; exact Bool.false_ne_true)]
            rw [hd]
            exact ⟨none, 0, rfl, (H10.takes [0] (by decide)).nilRw 9 1⟩
          · skip
            obtain ⟨V0, rfl⟩ : ∃ V0 : Nat, v = (V0 : Int) := ⟨v.toNat, by omega⟩
            obtain ⟨I0, rfl⟩ : ∃ I0 : Nat, i = (I0 : Int) := ⟨i.toNat, by omega⟩
            have hp12 : 2 ^ ((tallN l.length) - V0) ≤ 4096 := Nat.pow_le_pow_right (by omega) (show (tallN l.length) - V0 ≤ 12 by omega)
            have hI0 : I0 < 2 ^ ((tallN l.length) - V0) := by simp only [Int.toNat_natCast] at hb11; omega
            refine g_cond_f rfl (decide_eq_false hb11) ?_
            refine g_skip ?_
            refine g_then ?_
            refine g_seq ?_
            refine g_region ?_
            refine l_of (s_val (v := .slice p n c) (wt0 rfl) rfl rfl (x_move rfl rfl) ?_)
            refine l_of (s_call (wt0 rfl) (x_call' rfl rfl cl35) (full_r l p n c hn (by omega) (by omega) hc3 _ (H10.oldReads (k := 0) rfl hr)) ?_)
            rintro _ wq16 ⟨P12, C13, rs14, rfl, hrs15, H17⟩
            replace H17 : S wq16 [Rw 22 1 P12 rs14.length C13 (rosV rs14), RowsI 9 1 encT rs14, Old w no] := H10.absorb (new := [Rw 22 1 P12 rs14.length C13 (rosV rs14), RowsI 9 1 encT rs14]) H17
            refine b_ret rfl rfl ?_
            refine l_of (s_val (v := .slice P12 rs14.length C13) (wt0 rfl) rfl rfl (x_assign rfl rfl) ?_)
            refine g_nil ?_
            refine g_then ?_
            refine g_seq ?_
            refine g_region ?_
            have H18 : S wq16 [Rw 9 1 none 0 0 (stV (uncTo l V0 I0 0)), Rw 22 1 P12 rs14.length C13 (rosV rs14), RowsI 9 1 encT rs14, Old w no] := H17.nilRw 9 1
            refine l_of (s_val (v := .slice none 0 0) (wt0 rfl) rfl rfl (x_assign rfl rfl) ?_)
            refine g_nil ?_
            refine g_then ?_
            refine g_seq ?_
            refine g_block ?_
            refine g_loop (ι := Nat × Nat × Option Addr × Nat) (fun (k, bs, q, d) => [(1, .int .i64 (((V0 + k : Nat) : Int))), (2, .int .i64 ((bs : Int))), (9, .int .i64 ((((tallN l.length) : Nat) : Int))), (10, .slice P12 rs14.length C13), (11, .slice q k d)]) (fun (k, bs, q, d) wx => (V0 + k ≤ (tallN l.length)) ∧ (bs = I0 / 2 ^ k) ∧ S wx [Rw 9 1 q k d (stV (uncTo l V0 I0 k)), Rw 22 1 P12 rs14.length C13 (rosV rs14), RowsI 9 1 encT rs14, Old w no]) (fun (k, bs, q, d) => (tallN l.length) - (V0 + k)) (0, I0, none, 0) ⟨rfl, rfl, rfl, rfl, rfl, trivial⟩ ⟨by omega, by rw [Nat.pow_zero, Nat.div_one], (H18.takes [0, 1, 2, 3] (by decide))⟩ ?_
            rintro ⟨k, bs, q, d⟩ wq19 ⟨hk, hbs, H20⟩
            replace H20 : S wq19 [Rw 9 1 q k d (stV (uncTo l V0 I0 k)), Rw 22 1 P12 rs14.length C13 (rosV rs14), RowsI 9 1 encT rs14, Old w no] := H20
            refine g_weak [(1, .int .i64 (((V0 + k : Nat) : Int))), (2, .int .i64 ((bs : Int))), (9, .int .i64 ((((tallN l.length) : Nat) : Int))), (10, .slice P12 rs14.length C13), (11, .slice q k d)] ⟨rfl, rfl, rfl, rfl, rfl, trivial⟩ ?_
            have hbi : bs ≤ I0 := by rw [hbs]; exact Nat.div_le_self _ _
            refine g_seq ?_
            refine g_seq ?_
            refine g_region ?_
            refine l_of (s_val (v := .int .i64 (((V0 + k : Nat) : Int))) (wt0 rfl) rfl rfl (x_move rfl rfl) ?_)
            refine l_of (s_val (v := .int .i64 ((((tallN l.length) : Nat) : Int))) (wt0 rfl) rfl rfl (x_move rfl rfl) ?_)
            refine l_of (s_val (v := .bool (decide ((((V0 + k : Nat) : Int) : Int) < (((tallN l.length) : Nat) : Int)))) (wt0 rfl) rfl rfl (x_bin rfl rfl rfl b_lss) ?_)
            refine g_nil ?_
            refine g_then ?_
            by_cases hb21 : (((V0 + k : Nat) : Int) : Int) < (((tallN l.length) : Nat) : Int)
            · skip
              obtain ⟨rp22, rc23, hj24⟩ := full_at hrs15 (j := V0 + k) (by omega)
              have hrl25 := full_row (l := l) (k := V0 + k) (by omega) (by omega)
              have hrl25p := Nat.two_pow_pos ((tallN l.length) - (V0 + k))
              have hPs26 : ∃ a, P12 = some a := ((H20.rwReads (k := 1) rfl).2.2 (by have := full_len hrs15; omega)).imp fun _ h => h.1
              have hQs27 : ∃ a, rp22 = some a := ((row_read (H20.at (k := 2) rfl) hj24 rfl).2.2 (by omega)).imp fun _ h => h.1
              have hrl25n := full_len hrs15
              have hbl : bs < 2 ^ ((tallN l.length) - (V0 + k)) := by rw [hbs, show (tallN l.length) - (V0 + k) = (tallN l.length) - V0 - k from by omega]; exact div_pow_lt (by omega) hI0
              have hsl := sib_lt hbl (by omega)
              refine g_cond_t rfl (decide_eq_true hb21) ?_
              refine g_skip ?_
              refine g_then ?_
              refine g_seq ?_
              refine g_block ?_
              refine g_seq ?_
              refine g_any [] (fun wx => S wx [Rw 22 1 P12 rs14.length C13 (rosV rs14), RowsI 9 1 encT rs14]) [] (by kernel_rfl) H20 (fun wq28 H29 => ?_)
              refine a_take (v := .slice q k d) 0 rfl (wt0 rfl) rfl rfl rfl (by kernel_rfl) (by kernel_rfl) (by kernel_rfl) (by kernel_rfl) (H29.mask [false, true, true, false]) (fun wx H => x_move rfl rfl) ?_
              refine a_take (v := .slice P12 rs14.length C13) 1 rfl (wt0 rfl) rfl rfl rfl (by kernel_rfl) (by kernel_rfl) (by kernel_rfl) (by kernel_rfl) (H29.mask [false, true, true, false]) (fun wx H => x_move rfl rfl) ?_
              refine a_take (v := .int .i64 (((V0 + k : Nat) : Int))) 2 rfl (wt0 rfl) rfl rfl rfl (by kernel_rfl) (by kernel_rfl) (by kernel_rfl) (by kernel_rfl) (H29.mask [false, true, true, false]) (fun wx H => x_move rfl rfl) ?_
              refine a_take (v := .pointer ((P12).map fun q => q.add ((V0 + k) * 1))) 3 rfl (wt0 rfl) rfl rfl rfl (by kernel_rfl) (by kernel_rfl) (by kernel_rfl) (by kernel_rfl) (H29.mask [false, true, true, false]) (fun wx H => x_idxP (V0 + k) (hPs26) rfl rfl rfl Tryz.underlying76 sz22 (by omega)) ?_
              refine a_take (v := .slice rp22 (upN (V0 + k) (rowT l.length 0 l)).length rc23) 4 rfl (wt0 rfl) rfl rfl rfl (by kernel_rfl) (by kernel_rfl) (by kernel_rfl) (by kernel_rfl) (H29.mask [false, true, true, false]) (fun wx H => x_loadR1 (V0 + k) (H.rwReads (k := 0) rfl) (by omega) rfl rfl Tryz.underlying22 rfl (rosV_at hj24)) ?_
              refine a_take (v := .int .i64 ((bs : Int))) 5 rfl (wt0 rfl) rfl rfl rfl (by kernel_rfl) (by kernel_rfl) (by kernel_rfl) (by kernel_rfl) (H29.mask [false, true, true, false]) (fun wx H => x_move rfl rfl) ?_
              refine a_one (i := 6) (by kernel_rfl) rfl ?_
              refine s_call (wt0 rfl) (x_call' rfl rfl cl54) (sib_r _ (by omega) _) ?_
              rintro _ wq30 ⟨rfl, H31⟩
              replace H31 : S wq30 [Rw 9 1 q k d (stV (uncTo l V0 I0 k)), Rw 22 1 P12 rs14.length C13 (rosV rs14), RowsI 9 1 encT rs14, Old w no] := H29.absorb (new := []) H31
              refine b_ret rfl rfl ?_
              refine a_k (H31.mask [false, true, true, false]) ?_
              refine a_take (v := .pointer ((rp22).map fun q => q.add ((sibN bs) * 1))) 7 rfl (wt0 rfl) rfl rfl rfl (by kernel_rfl) (by kernel_rfl) (by kernel_rfl) (by kernel_rfl) (H31.mask [false, true, true, false]) (fun wx H => x_idxP (sibN bs) (hQs27) rfl rfl rfl Tryz.underlying22 sz9 (by omega)) ?_
              refine a_take (v := .string ((nodeS (V0 + k) (bs ^^^ 1) (lvlS 0 l (V0 + k))))) 8 rfl (wt0 rfl) rfl rfl rfl (by kernel_rfl) (by kernel_rfl) (by kernel_rfl) (by kernel_rfl) (H31.mask [false, true, true, false]) (fun wx H => ex_cast (x_loadR1 (sibN bs) (row_read (H.at (k := 1) rfl) hj24 rfl) (by omega) rfl rfl Tryz.underlying9 rfl (stV_at (by omega))) (by rw [row_node (by omega) (by omega) (by omega) hbl])) ?_
              refine a_one (i := 9) (by kernel_rfl) rfl ?_
              refine s_buildSlice H31 (wt0 rfl) rfl rfl rfl (vs := [.string ((nodeS (V0 + k) (bs ^^^ 1) (lvlS 0 l (V0 + k))))]) rfl Tryz.underlying22 sz9 ze9 rfl rfl (cells := #[.string ((nodeS (V0 + k) (bs ^^^ 1) (lvlS 0 l (V0 + k))))]) (by kernel_rfl) ?_
              intro g32 wq33 H34
              refine a_k (H34.mask [false, false, true, true, false]) ?_
              refine a_one (i := 10) (by kernel_rfl) rfl ?_
              refine s_appendR (n := k) (m := 1) (sc := d) (xs := (stV (uncTo l V0 I0 k))) (news := [.string ((nodeS (V0 + k) (bs ^^^ 1) (lvlS 0 l (V0 + k))))]) (p := q) (ad := ⟨g32, 0, none⟩) H34 1 (wt0 rfl) rfl rfl rfl rfl rfl rfl Tryz.underlying22 inf9 rfl (by decide) (by decide) rfl (by decide) (news_ob H34 (j0 := 0) rfl) rfl (by omega) ?_
              intro p35 c36 wq37 (H38 : S wq37 [Ob g32 (.cells #[.string ((nodeS (V0 + k) (bs ^^^ 1) (lvlS 0 l (V0 + k))))] 9 (0, 0)), Rw 9 1 p35 (k + 1) c36 ((stV (uncTo l V0 I0 k)) ++ [.string ((nodeS (V0 + k) (bs ^^^ 1) (lvlS 0 l (V0 + k))))]), Rw 22 1 P12 rs14.length C13 (rosV rs14), RowsI 9 1 encT rs14, Old w no])
              refine a_k (H38.mask [false, false, true, true, false]) ?_
              refine a_take (v := .slice p35 (k + 1) c36) 11 rfl (wt0 rfl) rfl rfl rfl (by kernel_rfl) (by kernel_rfl) (by kernel_rfl) (by kernel_rfl) (H38.mask [false, false, true, true, false]) (fun wx H => x_assign rfl rfl) ?_
              refine a_done (by kernel_rfl) ?_
              refine g_then ?_
              refine g_weak [(1, .int .i64 (((V0 + k : Nat) : Int))), (2, .int .i64 ((bs : Int))), (9, .int .i64 ((((tallN l.length) : Nat) : Int))), (10, .slice P12 rs14.length C13), (11, .slice p35 (k + 1) c36)] ⟨rfl, rfl, rfl, rfl, rfl, trivial⟩ ?_
              refine g_region ?_
              refine l_of (s_val (v := .int .i64 ((bs : Int))) (wt0 rfl) rfl rfl (x_move rfl rfl) ?_)
              refine l_of (s_val (v := .int .i64 (((bs / 2 : Nat) : Int))) (wt0 rfl) rfl rfl (x_bin rfl rfl rfl (b_quoN (a := bs) (b := 2) (by omega))) ?_)
              refine l_of (s_val (v := .int .i64 (((bs / 2 : Nat) : Int))) (wt0 rfl) rfl rfl (x_assign rfl rfl) ?_)
              refine g_nil ?_
              refine g_in ?_
              refine g_then ?_
              refine g_region ?_
              refine l_of (s_val (v := .int .i64 (((V0 + k : Nat) : Int))) (wt0 rfl) rfl rfl (x_move rfl rfl) ?_)
              refine l_of (s_val (v := .int .i64 (((V0 + (k + 1) : Nat) : Int))) (wt0 rfl) rfl rfl (x_bin rfl rfl rfl (b_addN (a := V0 + k) (b := 1) (by omega))) ?_)
              refine l_of (s_val (v := .int .i64 (((V0 + (k + 1) : Nat) : Int))) (wt0 rfl) rfl rfl (x_assign rfl rfl) ?_)
              refine g_nil ?_
              refine g_then ?_
              refine g_round (i := (k, bs, q, d)) (k + 1, bs / 2, p35, c36) ?_ ?_ ?_
              · exact ⟨rfl, rfl, rfl, rfl, rfl, trivial⟩
              · exact ⟨by omega, (by rw [hbs, Nat.div_div_eq_div_mul, Nat.pow_succ]), (by rw [uncTo_next, stV_snoc, ← hbs]; exact (H38.takes [1, 2, 3, 4] (by decide)))⟩
              · (try dsimp only); omega
            · skip
              refine g_cond_f rfl (decide_eq_false hb21) ?_
              refine g_exit ?_
              refine g_then_exit ?_
              refine g_then_exit ?_
              refine g_in_hit ?_
              refine g_then ?_
              refine g_seq ?_
              refine g_region ?_
              refine l_of (s_val (v := .slice q k d) (wt0 rfl) rfl rfl (x_move rfl rfl) ?_)
              refine l_of (s_val (v := .slice q k d) (wt0 rfl) rfl rfl (x_assign rfl rfl) ?_)
              refine l_of (s_val (v := .int .i64 0) (wt0 rfl) rfl rfl (x_assign rfl rfl) ?_)
              refine g_nil ?_
              refine g_then ?_
              refine g_ret ?_
              refine fin_ret [.tmp 6, .tmp 7] [.slice q k d, .int .i64 0] rfl ⟨rfl, rfl, trivial⟩ ?_
              have hkk : k = (tallN l.length) - V0 := by omega
              subst hkk
              have hd : unclesS l (V0 : Int) (I0 : Int) = ((uncTo l V0 I0 ((tallN l.length) - V0)), 0) := by unfold unclesS; rw [if_pos (by omega), if_pos (nodeOk_t (by omega) (by omega) (by omega) (by rw [Int.toNat_natCast]; omega)), Int.toNat_natCast, Int.toNat_natCast]
              rw [hd]
              simp only [uncTo_len]
              exact ⟨_, _, rfl, H20.takes [0, 3] (by decide)⟩
  · skip
    refine g_cond_t rfl (nt hb3) ?_
    refine g_seq ?_
    refine g_region ?_
    refine l_of (s_val (v := .int .i64 (checkE l)) (wt0 rfl) rfl rfl (x_move rfl rfl) ?_)
    refine l_of (s_val (v := .slice none 0 0) (wt0 rfl) rfl rfl (x_assign rfl rfl) ?_)
    refine l_of (s_val (v := .int .i64 (checkE l)) (wt0 rfl) rfl rfl (x_assign rfl rfl) ?_)
    refine g_nil ?_
    refine g_then ?_
    refine g_ret ?_
    refine g_then_ret ?_
    refine fin_ret [.tmp 6, .tmp 7] [.slice none 0 0, .int .i64 (checkE l)] rfl ⟨rfl, rfl, trivial⟩ ?_
    have hd : unclesS l v i = ([], checkE l) := by unfold unclesS; rw [if_neg (by omega)]
    rw [hd]
    exact ⟨none, 0, rfl, (H2.takes [0] (by decide)).nilRw 9 1⟩
end Go.Proofs.YtlajgickimgigaaGreat
