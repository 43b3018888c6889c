import Derived.Test.YtlajgickimgigaaVJ
set_option linter.unusedSimpArgs false
set_option linter.unusedVariables false
namespace Go.Proofs.Ytlajgickimgigaa
open Go.RowKit

theorem cl37 : callable Try.prog 37 = true := by kernel_rfl
theorem cl39 : callable Try.prog 39 = true := by kernel_rfl
theorem cl40 : callable Try.prog 40 = true := by kernel_rfl
theorem cl41 : callable Try.prog 41 = true := by kernel_rfl
def ordV (os : List Int) : List Value := os.map fun x => Value.int .i64 x
theorem ordV_at {os : List Int} {j : Nat} (h : j < os.length) : (ordV os)[j * 1]? = some (.int .i64 (os.getD j 0)) := by
  unfold ordV; rw [Nat.mul_one, List.getElem?_map, List.getD_eq_getElem?_getD, List.getElem?_eq_getElem h]; rfl
theorem new_n (root : ByteArray) (n : Nat) (hs : root.size = 32) (h1 : 1 ≤ n) (hn : n ≤ 4096) (w : World) : Calls Try.prog 37 #[.string root, .int .i64 (n : Int)] w fun e w' =>
    ∃ tg mg, e = .returned (.tuple #[.pointer (some ⟨tg, 0, none⟩), .int .i64 0]) ∧ S w' ([Ob tg (.cells #[.int .i64 ((n : Int)), .int .i64 (((tallN n) : Int)), .string root, .map (some mg)] 96 (0, 0)), Mp placeV Value.string placeOk mg (newT (tallN n) root)] ++ [Old w no]) := by
  have := new_s root (n : Int) hs (by omega) (by omega) w
  simp only [Int.toNat_natCast] at this
  exact this
theorem root_bad {l : List ByteArray} (hc : ¬ checkE l = 0) : ¬ (rootS l).1.size = 32 := by
  unfold rootS; rw [if_neg hc]; show ¬ (⟨#[]⟩ : ByteArray).size = 32; decide
theorem intV_range (k : Nat) : intV (List.range (k + 1)) = intV (List.range k) ++ [.int .i64 (k : Int)] := by rw [List.range_succ, intV_snoc]
set_option maxRecDepth 20000 in
set_option maxHeartbeats 4000000 in
set_option maxRecDepth 20000 in
set_option maxHeartbeats 4000000 in
theorem whole_law (v : Int) (l : List ByteArray) (p : Option Addr) (c : Nat) (hm : l.length ≤ 9223372036854775807) (os : List Int) (po : Option Addr) (no_ co : Nat) (hno : no_ = os.length) (w : World) (hr : Reads w p l.length c 1 (stV l)) (hro : Reads w po no_ co 1 (ordV os)) : Calls Try.prog 8 #[.slice p l.length c, .int .i64 v, .slice po no_ co] w fun e w' => e = .returned (.bool true) ∧ S w' [Old w no] := by
  have H0 := S.old w
  refine enter 198 Try.func8 rfl rfl rfl ?_
  refine g_weak [(0, .slice p l.length c), (1, .int .i64 v), (2, .slice po no_ co)] ⟨rfl, rfl, rfl, trivial⟩ ?_
  refine g_seq ?_
  refine g_region ?_
  refine l_of (s_val (v := .bool false) (wt0 rfl) rfl rfl (x_assign rfl rfl) ?_)
  refine g_nil ?_
  refine g_then ?_
  refine g_seq ?_
  refine g_seq ?_
  refine g_region ?_
  refine l_of (s_val (v := .slice p l.length c) (wt0 rfl) rfl rfl (x_move rfl rfl) ?_)
  refine l_of (s_call (wt0 rfl) (x_call' rfl rfl cl9) (few_l l p l.length c rfl hm _ (H0.oldReads (k := 0) rfl hr)) ?_)
  rintro _ wq1 ⟨rfl, H2⟩
  replace H2 : S wq1 [Old w no] := H0.absorb (new := []) H2
  refine b_ret rfl rfl ?_
  refine l_of (s_val (v := .bool (!((fewB l)))) (wt0 rfl) rfl rfl (x_not (b := (fewB l)) rfl rfl) ?_)
  refine l_of (s_val (v := .bool (!((fewB l)))) (wt0 rfl) rfl rfl (x_move rfl rfl) ?_)
  rcases Bool.eq_false_or_eq_true ((fewB l)) with hb3 | hb3
  · skip
    have hm2 : l.length ≤ 1099511627776 := by have := few_len hb3; omega
    refine l_of (s_val (v := .slice p l.length c) (wt1 rfl rfl rfl rfl (neg_of hb3)) rfl rfl (x_move rfl rfl) ?_)
    refine l_of (s_val (v := .int .i64 ((l.length : Int))) (wt1 rfl rfl rfl rfl (neg_of hb3)) rfl rfl (x_lenl rfl rfl Try.underlying22) ?_)
    refine l_of (s_val (v := .bool (decide (((l.length : Int) : Int) = 0))) (wt1 rfl rfl rfl rfl (neg_of hb3)) rfl rfl (x_bin rfl rfl rfl b_eql) ?_)
    refine l_of (s_val (v := .bool (decide (((l.length : Int) : Int) = 0))) (wt0 rfl) rfl rfl (x_pick_f rfl rfl (neg_of hb3) rfl) ?_)
    refine l_of (s_val (v := .bool (decide (((l.length : Int) : Int) = 0))) (wt0 rfl) rfl rfl (x_move rfl rfl) ?_)
    by_cases hb4 : ((l.length : Int) : Int) = 0
    · skip
      refine l_of (s_not (wn1 rfl rfl rfl rfl (decide_eq_true hb4)) rfl rfl ?_)
      refine l_of (s_not (wn1 rfl rfl rfl rfl (decide_eq_true hb4)) rfl rfl ?_)
      refine l_of (s_not (wn1 rfl rfl rfl rfl (decide_eq_true hb4)) rfl rfl ?_)
      refine l_of (s_val (v := .bool true) (wt0 rfl) rfl rfl (x_pick_t rfl rfl (decide_eq_true hb4) rfl) ?_)
      refine g_nil ?_
      refine g_then ?_
      refine g_weak [(0, .slice p l.length c), (1, .int .i64 v), (2, .slice po no_ co), (41, .bool true)] ⟨rfl, rfl, rfl, rfl, trivial⟩ ?_
      refine g_cond_t rfl rfl ?_
      refine g_seq ?_
      refine g_region ?_
      refine l_of (s_call (wt0 rfl) (x_call' rfl rfl cl10) (awake_s _) ?_)
      rintro _ wq5 ⟨rfl, H6⟩
      replace H6 : S wq5 [Old w no] := H2.absorb (new := []) H6
      refine b_ret rfl rfl ?_
      refine l_of (s_val (v := .bool true) (wt0 rfl) rfl rfl (x_assign rfl rfl) ?_)
      refine g_nil ?_
      refine g_then ?_
      refine g_ret ?_
      refine g_then_ret ?_
      refine fin_ret [.tmp 6] [.bool true] rfl ⟨rfl, trivial⟩ ?_
      exact ⟨rfl, H6.mask [true]⟩
    · skip
      refine l_of (s_val (v := .slice po no_ co) (wt1 rfl rfl rfl rfl (decide_eq_false hb4)) rfl rfl (x_move rfl rfl) ?_)
      refine l_of (s_val (v := .int .i64 ((no_ : Int))) (wt1 rfl rfl rfl rfl (decide_eq_false hb4)) rfl rfl (x_lenl rfl rfl Try.underlying54) ?_)
      refine l_of (s_val (v := .bool (decide ((100 : Int) < (no_ : Int)))) (wt1 rfl rfl rfl rfl (decide_eq_false hb4)) rfl rfl (x_bin rfl rfl rfl b_gtr) ?_)
      refine l_of (s_val (v := .bool (decide ((100 : Int) < (no_ : Int)))) (wt0 rfl) rfl rfl (x_pick_f rfl rfl (decide_eq_false hb4) rfl) ?_)
      refine g_nil ?_
      refine g_then ?_
      refine g_weak [(0, .slice p l.length c), (1, .int .i64 v), (2, .slice po no_ co), (41, .bool (decide ((100 : Int) < (no_ : Int))))] ⟨rfl, rfl, rfl, rfl, trivial⟩ ?_
      by_cases hb7 : (100 : Int) < (no_ : Int)
      · skip
        refine g_cond_t rfl (decide_eq_true hb7) ?_
        refine g_seq ?_
        refine g_region ?_
        refine l_of (s_call (wt0 rfl) (x_call' rfl rfl cl10) (awake_s _) ?_)
        rintro _ wq8 ⟨rfl, H9⟩
        replace H9 : S wq8 [Old w no] := H2.absorb (new := []) H9
        refine b_ret rfl rfl ?_
        refine l_of (s_val (v := .bool true) (wt0 rfl) rfl rfl (x_assign rfl rfl) ?_)
        refine g_nil ?_
        refine g_then ?_
        refine g_ret ?_
        refine g_then_ret ?_
        refine fin_ret [.tmp 6] [.bool true] rfl ⟨rfl, trivial⟩ ?_
        exact ⟨rfl, H9.mask [true]⟩
      · skip
        refine g_cond_f rfl (decide_eq_false hb7) ?_
        refine g_skip ?_
        refine g_then ?_
        refine g_seq ?_
        refine g_region ?_
        refine l_of (s_val (v := .slice p l.length c) (wt0 rfl) rfl rfl (x_move rfl rfl) ?_)
        refine l_of (s_call (wt0 rfl) (x_call' rfl rfl cl20) (root_s l p l.length c rfl hm2 _ (H2.oldReads (k := 0) rfl hr)) ?_)
        rintro _ wq10 ⟨rfl, H11⟩
        replace H11 : S wq10 [Old w no] := H2.absorb (new := []) H11
        refine b_ret rfl rfl ?_
        refine l_of (s_val (v := .tuple #[.string ((rootS l).1), .int .i64 ((rootS l).2)]) (wt0 rfl) rfl rfl (x_move rfl rfl) ?_)
        refine l_of (s_val (v := .string ((rootS l).1)) (wt0 rfl) rfl rfl (x_extract rfl rfl rfl) ?_)
        refine l_of (s_val (v := .int .i64 ((rootS l).2)) (wt0 rfl) rfl rfl (x_extract rfl rfl rfl) ?_)
        refine l_of (s_val (v := .string ((rootS l).1)) (wt0 rfl) rfl rfl (x_assign rfl rfl) ?_)
        refine l_of (s_val (v := .int .i64 ((rootS l).2)) (wt0 rfl) rfl rfl (x_assign rfl rfl) ?_)
        refine g_nil ?_
        refine g_then ?_
        refine g_seq ?_
        refine g_region ?_
        refine l_of (s_val (v := .string ((rootS l).1)) (wt0 rfl) rfl rfl (x_move rfl rfl) ?_)
        refine l_of (s_val (v := .slice p l.length c) (wt0 rfl) rfl rfl (x_move rfl rfl) ?_)
        refine l_of (s_val (v := .int .i64 ((l.length : Int))) (wt0 rfl) rfl rfl (x_lenl rfl rfl Try.underlying22) ?_)
        by_cases hce : checkE l = 0
        · skip
          obtain ⟨hc1, hc2, hc3⟩ := check_spec hce
          have ht12 := tall_le12 hc2
          refine l_of (s_call (wt0 rfl) (x_call' rfl rfl cl37) (new_n (rootS l).1 l.length (root_size hce) hc1 hc2 _) ?_)
          rintro _ wq12 ⟨tg14, mg15, rfl, H13⟩
          replace H13 : S wq12 [Ob tg14 (.cells #[.int .i64 ((l.length : Int)), .int .i64 (((tallN l.length) : Int)), .string ((rootS l).1), .map (some mg15)] 96 (0, 0)), Mp placeV Value.string placeOk mg15 (newT (tallN l.length) (rootS l).1), Old w no] := H11.absorb (new := [Ob tg14 (.cells #[.int .i64 ((l.length : Int)), .int .i64 (((tallN l.length) : Int)), .string ((rootS l).1), .map (some mg15)] 96 (0, 0)), Mp placeV Value.string placeOk mg15 (newT (tallN l.length) (rootS l).1)]) H13
          refine b_ret rfl rfl ?_
          refine l_of (s_val (v := .tuple #[.pointer (some ⟨tg14, 0, none⟩), .int .i64 0]) (wt0 rfl) rfl rfl (x_move rfl rfl) ?_)
          refine l_of (s_val (v := .pointer (some ⟨tg14, 0, none⟩)) (wt0 rfl) rfl rfl (x_extract rfl rfl rfl) ?_)
          refine l_of (s_val (v := .int .i64 0) (wt0 rfl) rfl rfl (x_extract rfl rfl rfl) ?_)
          refine l_of (s_val (v := .pointer (some ⟨tg14, 0, none⟩)) (wt0 rfl) rfl rfl (x_assign rfl rfl) ?_)
          refine l_of (s_val (v := .int .i64 0) (wt0 rfl) rfl rfl (x_assign rfl rfl) ?_)
          refine g_nil ?_
          refine g_then ?_
          refine g_weak [(0, .slice p l.length c), (1, .int .i64 v), (2, .slice po no_ co), (8, .int .i64 ((rootS l).2)), (9, .pointer (some ⟨tg14, 0, none⟩)), (10, .int .i64 0)] ⟨rfl, rfl, rfl, rfl, rfl, rfl, trivial⟩ ?_
          refine g_seq ?_
          refine g_region ?_
          refine l_of (s_val (v := .slice p l.length c) (wt0 rfl) rfl rfl (x_move rfl rfl) ?_)
          refine l_of (s_val (v := .int .i64 ((l.length : Int))) (wt0 rfl) rfl rfl (x_lenl rfl rfl Try.underlying22) ?_)
          have hht16 := hgt_r (l.length : Int) wq12
          rw [show hgt (l.length : Int) = ((((tallN l.length) : Nat) : Int), 0) from by unfold hgt; rw [if_pos (by omega)]; simp only [Int.toNat_natCast]] at hht16
          refine l_of (s_call (wt0 rfl) (x_call' rfl rfl cl16) (hht16) ?_)
          rintro _ wq17 ⟨rfl, H18⟩
          replace H18 : S wq17 [Ob tg14 (.cells #[.int .i64 ((l.length : Int)), .int .i64 (((tallN l.length) : Int)), .string ((rootS l).1), .map (some mg15)] 96 (0, 0)), Mp placeV Value.string placeOk mg15 (newT (tallN l.length) (rootS l).1), Old w no] := H13.absorb (new := []) H18
          refine b_ret rfl rfl ?_
          refine l_of (s_val (v := .tuple #[.int .i64 ((((tallN l.length) : Nat) : Int)), .int .i64 0]) (wt0 rfl) rfl rfl (x_move rfl rfl) ?_)
          refine l_of (s_val (v := .int .i64 ((((tallN l.length) : Nat) : Int))) (wt0 rfl) rfl rfl (x_extract rfl rfl rfl) ?_)
          refine l_of (s_val (v := .int .i64 0) (wt0 rfl) rfl rfl (x_extract rfl rfl rfl) ?_)
          refine l_of (s_val (v := .int .i64 ((((tallN l.length) : Nat) : Int))) (wt0 rfl) rfl rfl (x_assign rfl rfl) ?_)
          refine l_of (s_val (v := .int .i64 0) (wt0 rfl) rfl rfl (x_assign rfl rfl) ?_)
          refine g_nil ?_
          refine g_then ?_
          refine g_seq ?_
          refine g_seq ?_
          refine g_region ?_
          refine l_of (s_val (v := .int .i64 ((rootS l).2)) (wt0 rfl) rfl rfl (x_move rfl rfl) ?_)
          refine l_of (s_val (v := .bool (!decide (((rootS l).2 : Int) = 0))) (wt0 rfl) rfl rfl (x_bin rfl rfl rfl b_neq) ?_)
          refine g_nil ?_
          refine g_then ?_
          by_cases hb19 : ((rootS l).2 : Int) = 0
          · skip
            refine g_cond_f rfl (nf hb19) ?_
            refine g_skip ?_
            refine g_then ?_
            refine g_seq ?_
            refine g_seq ?_
            refine g_region ?_
            refine l_of (s_val (v := .int .i64 0) (wt0 rfl) rfl rfl (x_move rfl rfl) ?_)
            refine l_of (s_val (v := .bool (!decide ((0 : Int) = 0))) (wt0 rfl) rfl rfl (x_bin rfl rfl rfl b_neq) ?_)
            refine l_of (s_val (v := .bool (!decide ((0 : Int) = 0))) (wt0 rfl) rfl rfl (x_move rfl rfl) ?_)
            refine l_of (s_val (v := .int .i64 v) (wt1 rfl rfl rfl rfl (nf rfl)) rfl rfl (x_move rfl rfl) ?_)
            refine l_of (s_val (v := .bool (decide ((v : Int) < 0))) (wt1 rfl rfl rfl rfl (nf rfl)) rfl rfl (x_bin rfl rfl rfl b_lss) ?_)
            refine l_of (s_val (v := .bool (decide ((v : Int) < 0))) (wt0 rfl) rfl rfl (x_pick_f rfl rfl (nf rfl) rfl) ?_)
            refine l_of (s_val (v := .bool (decide ((v : Int) < 0))) (wt0 rfl) rfl rfl (x_move rfl rfl) ?_)
            by_cases hb20 : (v : Int) < 0
            · skip
              refine l_of (s_not (wn1 rfl rfl rfl rfl (decide_eq_true hb20)) rfl rfl ?_)
              refine l_of (s_not (wn1 rfl rfl rfl rfl (decide_eq_true hb20)) rfl rfl ?_)
              refine l_of (s_not (wn1 rfl rfl rfl rfl (decide_eq_true hb20)) rfl rfl ?_)
              refine l_of (s_val (v := .bool true) (wt0 rfl) rfl rfl (x_pick_t rfl rfl (decide_eq_true hb20) rfl) ?_)
              refine g_nil ?_
              refine g_then ?_
              refine g_weak [(0, .slice p l.length c), (1, .int .i64 v), (2, .slice po no_ co), (9, .pointer (some ⟨tg14, 0, none⟩)), (10, .int .i64 0), (11, .int .i64 ((((tallN l.length) : Nat) : Int))), (74, .bool true)] ⟨rfl, rfl, rfl, rfl, rfl, rfl, rfl, trivial⟩ ?_
              refine g_cond_t rfl rfl ?_
              refine g_seq ?_
              refine g_region ?_
              refine l_of (s_val (v := .int .i64 0) (wt0 rfl) rfl rfl (x_move rfl rfl) ?_)
              refine l_of (s_val (v := .bool (decide ((0 : Int) = 0))) (wt0 rfl) rfl rfl (x_bin rfl rfl rfl b_eql) ?_)
              refine l_of (s_val (v := .bool (decide ((0 : Int) = 0))) (wt0 rfl) rfl rfl (x_move rfl rfl) ?_)
              refine l_of (s_call (wt1 rfl rfl rfl rfl (decide_eq_true rfl)) (x_call' rfl rfl cl10) (awake_s _) ?_)
              rintro _ wq21 ⟨rfl, H22⟩
              replace H22 : S wq21 [Ob tg14 (.cells #[.int .i64 ((l.length : Int)), .int .i64 (((tallN l.length) : Int)), .string ((rootS l).1), .map (some mg15)] 96 (0, 0)), Mp placeV Value.string placeOk mg15 (newT (tallN l.length) (rootS l).1), Old w no] := H18.absorb (new := []) H22
              refine b_ret rfl rfl ?_
              refine l_of (s_val (v := .bool true) (wt0 rfl) rfl rfl (x_pick_t rfl rfl (decide_eq_true rfl) rfl) ?_)
              refine l_of (s_val (v := .bool true) (wt0 rfl) rfl rfl (x_assign rfl rfl) ?_)
              refine g_nil ?_
              refine g_then ?_
              refine g_weak [(6, .bool true)] ⟨rfl, trivial⟩ ?_
              refine g_ret ?_
              refine g_then_ret ?_
              refine fin_ret [.tmp 6] [.bool true] rfl ⟨rfl, trivial⟩ ?_
              exact ⟨rfl, H22.mask [false, false, true]⟩
            · skip
              refine l_of (s_val (v := .int .i64 v) (wt1 rfl rfl rfl rfl (decide_eq_false hb20)) rfl rfl (x_move rfl rfl) ?_)
              refine l_of (s_val (v := .int .i64 ((((tallN l.length) : Nat) : Int))) (wt1 rfl rfl rfl rfl (decide_eq_false hb20)) rfl rfl (x_move rfl rfl) ?_)
              refine l_of (s_val (v := .bool (decide (((((tallN l.length) : Nat) : Int) : Int) < v))) (wt1 rfl rfl rfl rfl (decide_eq_false hb20)) rfl rfl (x_bin rfl rfl rfl b_gtr) ?_)
              refine l_of (s_val (v := .bool (decide (((((tallN l.length) : Nat) : Int) : Int) < v))) (wt0 rfl) rfl rfl (x_pick_f rfl rfl (decide_eq_false hb20) rfl) ?_)
              refine g_nil ?_
              refine g_then ?_
              refine g_weak [(0, .slice p l.length c), (1, .int .i64 v), (2, .slice po no_ co), (9, .pointer (some ⟨tg14, 0, none⟩)), (10, .int .i64 0), (11, .int .i64 ((((tallN l.length) : Nat) : Int))), (74, .bool (decide (((((tallN l.length) : Nat) : Int) : Int) < v)))] ⟨rfl, rfl, rfl, rfl, rfl, rfl, rfl, trivial⟩ ?_
              by_cases hb23 : ((((tallN l.length) : Nat) : Int) : Int) < v
              · skip
                refine g_cond_t rfl (decide_eq_true hb23) ?_
                refine g_seq ?_
                refine g_region ?_
                refine l_of (s_val (v := .int .i64 0) (wt0 rfl) rfl rfl (x_move rfl rfl) ?_)
                refine l_of (s_val (v := .bool (decide ((0 : Int) = 0))) (wt0 rfl) rfl rfl (x_bin rfl rfl rfl b_eql) ?_)
                refine l_of (s_val (v := .bool (decide ((0 : Int) = 0))) (wt0 rfl) rfl rfl (x_move rfl rfl) ?_)
                refine l_of (s_call (wt1 rfl rfl rfl rfl (decide_eq_true rfl)) (x_call' rfl rfl cl10) (awake_s _) ?_)
                rintro _ wq24 ⟨rfl, H25⟩
                replace H25 : S wq24 [Ob tg14 (.cells #[.int .i64 ((l.length : Int)), .int .i64 (((tallN l.length) : Int)), .string ((rootS l).1), .map (some mg15)] 96 (0, 0)), Mp placeV Value.string placeOk mg15 (newT (tallN l.length) (rootS l).1), Old w no] := H18.absorb (new := []) H25
                refine b_ret rfl rfl ?_
                refine l_of (s_val (v := .bool true) (wt0 rfl) rfl rfl (x_pick_t rfl rfl (decide_eq_true rfl) rfl) ?_)
                refine l_of (s_val (v := .bool true) (wt0 rfl) rfl rfl (x_assign rfl rfl) ?_)
                refine g_nil ?_
                refine g_then ?_
                refine g_weak [(6, .bool true)] ⟨rfl, trivial⟩ ?_
                refine g_ret ?_
                refine g_then_ret ?_
                refine fin_ret [.tmp 6] [.bool true] rfl ⟨rfl, trivial⟩ ?_
                exact ⟨rfl, H25.mask [false, false, true]⟩
              · skip
                obtain ⟨V0, rfl⟩ : ∃ V0 : Nat, v = (V0 : Int) := ⟨v.toNat, by omega⟩
                refine g_cond_f rfl (decide_eq_false hb23) ?_
                refine g_skip ?_
                refine g_then ?_
                refine g_seq ?_
                refine g_region ?_
                refine l_of (s_val (v := .slice none 0 0) (wt0 rfl) rfl rfl (x_assign rfl rfl) ?_)
                refine g_nil ?_
                refine g_then ?_
                refine g_seq ?_
                refine g_seq ?_
                refine g_region ?_
                refine l_of (s_val (v := .slice p l.length c) (wt0 rfl) rfl rfl (x_move rfl rfl) ?_)
                refine l_of (s_val (v := .int .i64 ((l.length : Int))) (wt0 rfl) rfl rfl (x_lenl rfl rfl Try.underlying22) ?_)
                refine l_of (s_val (v := .int .i64 ((V0 : Int))) (wt0 rfl) rfl rfl (x_move rfl rfl) ?_)
                refine l_of (s_call (wt0 rfl) (x_call' rfl rfl cl38) (count_r l.length V0 (by omega) (by omega) (by omega) _) ?_)
                rintro _ wq26 ⟨rfl, H27⟩
                replace H27 : S wq26 [Ob tg14 (.cells #[.int .i64 ((l.length : Int)), .int .i64 (((tallN l.length) : Int)), .string ((rootS l).1), .map (some mg15)] 96 (0, 0)), Mp placeV Value.string placeOk mg15 (newT (tallN l.length) (rootS l).1), Old w no] := H18.absorb (new := []) H27
                refine b_ret rfl rfl ?_
                refine l_of (s_val (v := .int .i64 0) (wt0 rfl) rfl rfl (x_move rfl rfl) ?_)
                refine g_nil ?_
                refine g_then ?_
                refine g_block ?_
                have hcl := count_le (n := l.length) (v := V0) (by omega) (by omega) (by omega)
                have hpw : 2 ^ ((tallN l.length) - V0) ≤ 4096 := Nat.pow_le_pow_right (by omega) (show (tallN l.length) - V0 ≤ 12 by omega)
                refine g_loop (ι := Nat × Option Addr × Nat) (fun (k, q, d) => [(0, .slice p l.length c), (1, .int .i64 ((V0 : Int))), (2, .slice po no_ co), (9, .pointer (some ⟨tg14, 0, none⟩)), (11, .int .i64 ((((tallN l.length) : Nat) : Int))), (13, .slice q k d), (83, .int .i64 (((countN l.length V0) : Int))), (84, .int .i64 ((k : Int)))]) (fun (k, q, d) wx => (k ≤ (countN l.length V0)) ∧ S wx [Rw 3 1 q k d (intV (List.range k)), Ob tg14 (.cells #[.int .i64 ((l.length : Int)), .int .i64 (((tallN l.length) : Int)), .string ((rootS l).1), .map (some mg15)] 96 (0, 0)), Mp placeV Value.string placeOk mg15 (newT (tallN l.length) (rootS l).1), Old w no]) (fun (k, q, d) => (countN l.length V0) - k) (0, none, 0) ⟨rfl, rfl, rfl, rfl, rfl, rfl, rfl, rfl, trivial⟩ ⟨Nat.zero_le _, ((H27.takes [0, 1, 2] (by decide)).nilRw 3 1)⟩ ?_
                rintro ⟨k, q, d⟩ wq28 ⟨hk, H29⟩
                replace H29 : S wq28 [Rw 3 1 q k d (intV (List.range k)), Ob tg14 (.cells #[.int .i64 ((l.length : Int)), .int .i64 (((tallN l.length) : Int)), .string ((rootS l).1), .map (some mg15)] 96 (0, 0)), Mp placeV Value.string placeOk mg15 (newT (tallN l.length) (rootS l).1), Old w no] := H29
                refine g_weak [(0, .slice p l.length c), (1, .int .i64 ((V0 : Int))), (2, .slice po no_ co), (9, .pointer (some ⟨tg14, 0, none⟩)), (11, .int .i64 ((((tallN l.length) : Nat) : Int))), (13, .slice q k d), (83, .int .i64 (((countN l.length V0) : Int))), (84, .int .i64 ((k : Int)))] ⟨rfl, rfl, rfl, rfl, rfl, rfl, rfl, rfl, trivial⟩ ?_
                refine g_seq ?_
                refine g_region ?_
                refine l_of (s_val (v := .bool (decide (((k : Int) : Int) < ((countN l.length V0) : Int)))) (wt0 rfl) rfl rfl (x_bin rfl rfl rfl b_lss) ?_)
                refine g_nil ?_
                refine g_then ?_
                refine g_seq ?_
                by_cases hb30 : ((k : Int) : Int) < ((countN l.length V0) : Int)
                · skip
                  refine g_cond_t rfl (decide_eq_true hb30) ?_
                  refine g_skip ?_
                  refine g_then ?_
                  refine g_seq ?_
                  refine g_block ?_
                  refine g_seq ?_
                  refine g_region ?_
                  refine l_of (s_val (v := .int .i64 ((k : Int))) (wt0 rfl) rfl rfl (x_move rfl rfl) ?_)
                  refine l_of (s_val (v := .int .i64 ((k : Int))) (wt0 rfl) rfl rfl (x_assign rfl rfl) ?_)
                  refine g_nil ?_
                  refine g_then ?_
                  refine g_region ?_
                  refine l_of (s_val (v := .slice q k d) (wt0 rfl) rfl rfl (x_move rfl rfl) ?_)
                  refine l_of (s_val (v := .int .i64 ((k : Int))) (wt0 rfl) rfl rfl (x_move rfl rfl) ?_)
                  refine l_of (s_buildSlice H29 (wt0 rfl) rfl rfl rfl (vs := [.int .i64 ((k : Int))]) rfl Try.underlying54 sz3 ze3 rfl rfl (cells := #[.int .i64 ((k : Int))]) (by kernel_rfl) ?_)
                  intro g31 wq32 H33
                  refine l_of (s_appendR (n := k) (m := 1) (sc := d) (xs := (intV (List.range k))) (news := [.int .i64 ((k : Int))]) (p := q) (ad := ⟨g31, 0, none⟩) H33 1 (wt0 rfl) rfl rfl rfl rfl rfl rfl Try.underlying54 inf3 rfl (by decide) (by decide) rfl (by decide) (news_ob H33 (j0 := 0) rfl) rfl (by omega) ?_)
                  intro p34 c35 wq36 (H37 : S wq36 [Ob g31 (.cells #[.int .i64 ((k : Int))] 3 (0, 0)), Rw 3 1 p34 (k + 1) c35 ((intV (List.range k)) ++ [.int .i64 ((k : Int))]), Ob tg14 (.cells #[.int .i64 ((l.length : Int)), .int .i64 (((tallN l.length) : Int)), .string ((rootS l).1), .map (some mg15)] 96 (0, 0)), Mp placeV Value.string placeOk mg15 (newT (tallN l.length) (rootS l).1), Old w no])
                  refine l_of (s_val (v := .slice p34 (k + 1) c35) (wt0 rfl) rfl rfl (x_assign rfl rfl) ?_)
                  refine g_nil ?_
                  refine g_in ?_
                  refine g_then ?_
                  refine g_region ?_
                  refine l_of (s_val (v := .int .i64 ((k : Int) + 1)) (wt0 rfl) rfl rfl (x_bin rfl rfl rfl (b_add (w64 (by omega)))) ?_)
                  refine l_of (s_val (v := .int .i64 ((k : Int) + 1)) (wt0 rfl) rfl rfl (x_move rfl rfl) ?_)
                  refine g_nil ?_
                  refine g_then ?_
                  refine g_round (i := (k, q, d)) (k + 1, p34, c35) ?_ ?_ ?_
                  · exact ⟨rfl, rfl, rfl, rfl, rfl, rfl, rfl, rfl, trivial⟩
                  · exact ⟨by omega, (by rw [intV_range]; exact (H37.takes [1, 2, 3, 4] (by decide)))⟩
                  · (try dsimp only); omega
                · skip
                  refine g_cond_f rfl (decide_eq_false hb30) ?_
                  refine g_exit ?_
                  refine g_then_exit ?_
                  refine g_then_exit ?_
                  refine g_in_hit ?_
                  refine g_then ?_
                  refine g_seq ?_
                  refine g_seq ?_
                  refine g_region ?_
                  refine l_of (s_val (v := .int .i64 0) (wt0 rfl) rfl rfl (x_assign rfl rfl) ?_)
                  refine g_nil ?_
                  refine g_then ?_
                  refine g_block ?_
                  have hkk : k = (countN l.length V0) := by omega
                  have hlr : (List.range k).length = k := List.length_range
                  rw [← hlr]
                  refine g_loop (ι := Item × Option Addr × Nat × List Nat × PM × Nat) (fun (X, q, d, lf, M, j) => [(0, .slice p l.length c), (1, .int .i64 ((V0 : Int))), (2, .slice po no_ co), (9, .pointer (some ⟨tg14, 0, none⟩)), (11, .int .i64 ((((tallN l.length) : Nat) : Int))), (13, .slice q lf.length d), (15, .int .i64 ((j : Int)))]) (fun (X, q, d, lf, M, j) wx => (∀ W, X.ok W → Reads W q lf.length d 1 (intV lf)) ∧ (∀ i, i ∈ lf → i < (countN l.length V0)) ∧ (lf.length ≤ 4096) ∧ (Right l M) ∧ (∀ i, i < (countN l.length V0) → i ∉ lf → ∀ s, s ≤ (tallN l.length) - V0 → (M (V0 + s, i / 2 ^ s)).isSome = true) ∧ (j + lf.length ≤ 4096) ∧ S wx [X, Ob tg14 (.cells #[.int .i64 ((l.length : Int)), .int .i64 (((tallN l.length) : Int)), .string ((rootS l).1), .map (some mg15)] 96 (0, 0)), Mp placeV Value.string placeOk mg15 (M), Old w no]) (fun (X, q, d, lf, M, j) => lf.length) ((Rw 3 1 q k d (intV (List.range k))), q, d, (List.range k), (newT (tallN l.length) (rootS l).1), 0) ⟨rfl, rfl, rfl, rfl, rfl, rfl, rfl, trivial⟩ ⟨(fun W h => by rw [hlr]; exact reads_rw h), (fun i hi => by rw [List.mem_range] at hi; omega), (by rw [hlr]; omega), right_new hce, (fun i hi hno => absurd (List.mem_range.2 (by omega)) hno), (by rw [hlr]; omega), (H29.takes [0, 1, 2, 3] (by decide))⟩ ?_
                  rintro ⟨X, q, d, lf, M, j⟩ wq38 ⟨hX, hlf, hll, hR, hK, hjl, H39⟩
                  replace H39 : S wq38 [X, Ob tg14 (.cells #[.int .i64 ((l.length : Int)), .int .i64 (((tallN l.length) : Int)), .string ((rootS l).1), .map (some mg15)] 96 (0, 0)), Mp placeV Value.string placeOk mg15 (M), Old w no] := H39
                  refine g_weak [(0, .slice p l.length c), (1, .int .i64 ((V0 : Int))), (2, .slice po no_ co), (9, .pointer (some ⟨tg14, 0, none⟩)), (11, .int .i64 ((((tallN l.length) : Nat) : Int))), (13, .slice q lf.length d), (15, .int .i64 ((j : Int)))] ⟨rfl, rfl, rfl, rfl, rfl, rfl, rfl, trivial⟩ ?_
                  refine g_seq ?_
                  refine g_seq ?_
                  refine g_region ?_
                  refine l_of (s_val (v := .slice q lf.length d) (wt0 rfl) rfl rfl (x_move rfl rfl) ?_)
                  refine l_of (s_val (v := .int .i64 ((lf.length : Int))) (wt0 rfl) rfl rfl (x_lenl rfl rfl Try.underlying54) ?_)
                  refine l_of (s_val (v := .bool (decide ((0 : Int) < (lf.length : Int)))) (wt0 rfl) rfl rfl (x_bin rfl rfl rfl b_gtr) ?_)
                  refine g_nil ?_
                  refine g_then ?_
                  by_cases hb40 : (0 : Int) < (lf.length : Int)
                  · skip
                    refine g_cond_t rfl (decide_eq_true hb40) ?_
                    refine g_skip ?_
                    refine g_then ?_
                    refine g_seq ?_
                    refine g_block ?_
                    refine g_seq ?_
                    refine g_region ?_
                    refine l_of (s_val (v := .int .i64 0) (wt0 rfl) rfl rfl (x_assign rfl rfl) ?_)
                    refine g_nil ?_
                    refine g_then ?_
                    refine g_seq ?_
                    refine g_cut (ι := Nat) (fun at_ => [(0, .slice p l.length c), (1, .int .i64 ((V0 : Int))), (2, .slice po no_ co), (9, .pointer (some ⟨tg14, 0, none⟩)), (11, .int .i64 ((((tallN l.length) : Nat) : Int))), (13, .slice q lf.length d), (15, .int .i64 ((j : Int))), (16, .int .i64 ((at_ : Int)))]) (fun at_ wx => (at_ < lf.length) ∧ S wx [X, Ob tg14 (.cells #[.int .i64 ((l.length : Int)), .int .i64 (((tallN l.length) : Int)), .string ((rootS l).1), .map (some mg15)] 96 (0, 0)), Mp placeV Value.string placeOk mg15 (M), Old w no]) ?_ ?_
                    · skip
                      refine g_seq ?_
                      refine g_region ?_
                      refine l_of (s_val (v := .int .i64 ((j : Int))) (wt0 rfl) rfl rfl (x_move rfl rfl) ?_)
                      refine l_of (s_val (v := .slice po no_ co) (wt0 rfl) rfl rfl (x_move rfl rfl) ?_)
                      refine l_of (s_val (v := .int .i64 ((no_ : Int))) (wt0 rfl) rfl rfl (x_lenl rfl rfl Try.underlying54) ?_)
                      refine l_of (s_val (v := .bool (decide (((j : Int) : Int) < (no_ : Int)))) (wt0 rfl) rfl rfl (x_bin rfl rfl rfl b_lss) ?_)
                      refine l_of (s_val (v := .bool (decide (((j : Int) : Int) < (no_ : Int)))) (wt0 rfl) rfl rfl (x_move rfl rfl) ?_)
                      by_cases hb41 : ((j : Int) : Int) < (no_ : Int)
                      · skip
                        refine l_of (s_val (v := .slice po no_ co) (wt1 rfl rfl rfl rfl (decide_eq_true hb41)) rfl rfl (x_move rfl rfl) ?_)
                        refine l_of (s_val (v := .int .i64 ((j : Int))) (wt1 rfl rfl rfl rfl (decide_eq_true hb41)) rfl rfl (x_move rfl rfl) ?_)
                        refine l_of (s_val (v := .pointer ((po).map fun q => q.add (j * 1))) (wt1 rfl rfl rfl rfl (decide_eq_true hb41)) rfl rfl (x_idxR j (H39.oldReads (k := 3) rfl hro) rfl rfl rfl Try.underlying54 sz3 (by omega)) ?_)
                        refine l_of (s_val (v := .int .i64 ((os.getD (j) 0))) (wt1 rfl rfl rfl rfl (decide_eq_true hb41)) rfl rfl (x_loadR1 j (H39.oldReads (k := 3) rfl hro) (by omega) rfl rfl Try.underlying3 rfl (ordV_at (by omega))) ?_)
                        refine l_of (s_val (v := .bool (decide ((0 : Int) < (os.getD (j) 0)))) (wt1 rfl rfl rfl rfl (decide_eq_true hb41)) rfl rfl (x_bin rfl rfl rfl b_gtr) ?_)
                        refine l_of (s_val (v := .bool (decide ((0 : Int) < (os.getD (j) 0)))) (wt0 rfl) rfl rfl (x_pick_t rfl rfl (decide_eq_true hb41) rfl) ?_)
                        refine g_nil ?_
                        refine g_then ?_
                        refine g_weak [(0, .slice p l.length c), (1, .int .i64 ((V0 : Int))), (2, .slice po no_ co), (9, .pointer (some ⟨tg14, 0, none⟩)), (11, .int .i64 ((((tallN l.length) : Nat) : Int))), (13, .slice q lf.length d), (15, .int .i64 ((j : Int))), (16, .int .i64 0), (107, .bool (decide ((0 : Int) < (os.getD (j) 0))))] ⟨rfl, rfl, rfl, rfl, rfl, rfl, rfl, rfl, rfl, trivial⟩ ?_
                        by_cases hb42 : (0 : Int) < (os.getD (j) 0)
                        · skip
                          refine g_cond_t rfl (decide_eq_true hb42) ?_
                          refine g_region ?_
                          refine l_of (s_val (v := .slice po no_ co) (wt0 rfl) rfl rfl (x_move rfl rfl) ?_)
                          refine l_of (s_val (v := .int .i64 ((j : Int))) (wt0 rfl) rfl rfl (x_move rfl rfl) ?_)
                          refine l_of (s_val (v := .pointer ((po).map fun q => q.add (j * 1))) (wt0 rfl) rfl rfl (x_idxR j (H39.oldReads (k := 3) rfl hro) rfl rfl rfl Try.underlying54 sz3 (by omega)) ?_)
                          refine l_of (s_val (v := .int .i64 ((os.getD (j) 0))) (wt0 rfl) rfl rfl (x_loadR1 j (H39.oldReads (k := 3) rfl hro) (by omega) rfl rfl Try.underlying3 rfl (ordV_at (by omega))) ?_)
                          refine l_of (s_val (v := .slice q lf.length d) (wt0 rfl) rfl rfl (x_move rfl rfl) ?_)
                          refine l_of (s_val (v := .int .i64 ((lf.length : Int))) (wt0 rfl) rfl rfl (x_lenl rfl rfl Try.underlying54) ?_)
                          refine l_of (s_val (v := .int .i64 ((((os.getD (j) 0)) % (lf.length : Int)))) (wt0 rfl) rfl rfl (x_bin rfl rfl rfl (b_rem (by omega) (rem0 (by omega)))) ?_)
                          refine l_of (s_val (v := .int .i64 ((((os.getD (j) 0)) % (lf.length : Int)))) (wt0 rfl) rfl rfl (x_assign rfl rfl) ?_)
                          refine g_nil ?_
                          refine g_then ?_
                          have hmn : 0 ≤ (((os.getD (j) 0)) % (lf.length : Int)) := Int.emod_nonneg _ (by omega)
                          have hml : (((os.getD (j) 0)) % (lf.length : Int)) < (lf.length : Int) := Int.emod_lt_of_pos _ (by omega)
                          rw [show (((os.getD (j) 0)) % (lf.length : Int)) = ((((((os.getD (j) 0)) % (lf.length : Int))).toNat : Nat) : Int) from by omega]
                          refine g_mid ((((((os.getD (j) 0)) % (lf.length : Int))).toNat)) ?_ ?_
                          · exact ⟨rfl, rfl, rfl, rfl, rfl, rfl, rfl, rfl, trivial⟩
                          · exact ⟨(by omega), H39⟩
                        · skip
                          refine g_cond_f rfl (decide_eq_false hb42) ?_
                          refine g_skip ?_
                          refine g_then ?_
                          refine g_mid (0) ?_ ?_
                          · exact ⟨rfl, rfl, rfl, rfl, rfl, rfl, rfl, rfl, trivial⟩
                          · exact ⟨(by omega), H39⟩
                      · skip
                        refine l_of (s_not (wn1 rfl rfl rfl rfl (decide_eq_false hb41)) rfl rfl ?_)
                        refine l_of (s_not (wn1 rfl rfl rfl rfl (decide_eq_false hb41)) rfl rfl ?_)
                        refine l_of (s_not (wn1 rfl rfl rfl rfl (decide_eq_false hb41)) rfl rfl ?_)
                        refine l_of (s_not (wn1 rfl rfl rfl rfl (decide_eq_false hb41)) rfl rfl ?_)
                        refine l_of (s_not (wn1 rfl rfl rfl rfl (decide_eq_false hb41)) rfl rfl ?_)
                        refine l_of (s_val (v := .bool false) (wt0 rfl) rfl rfl (x_pick_f rfl rfl (decide_eq_false hb41) rfl) ?_)
                        refine g_nil ?_
                        refine g_then ?_
                        refine g_weak [(0, .slice p l.length c), (1, .int .i64 ((V0 : Int))), (2, .slice po no_ co), (9, .pointer (some ⟨tg14, 0, none⟩)), (11, .int .i64 ((((tallN l.length) : Nat) : Int))), (13, .slice q lf.length d), (15, .int .i64 ((j : Int))), (16, .int .i64 0), (107, .bool false)] ⟨rfl, rfl, rfl, rfl, rfl, rfl, rfl, rfl, rfl, trivial⟩ ?_
                        refine g_cond_f rfl rfl ?_
                        refine g_skip ?_
                        refine g_then ?_
                        refine g_mid (0) ?_ ?_
                        · exact ⟨rfl, rfl, rfl, rfl, rfl, rfl, rfl, rfl, trivial⟩
                        · exact ⟨(by omega), H39⟩
                    rintro at_ wq43 ⟨hat, H44⟩
                    replace H44 : S wq43 [X, Ob tg14 (.cells #[.int .i64 ((l.length : Int)), .int .i64 (((tallN l.length) : Int)), .string ((rootS l).1), .map (some mg15)] 96 (0, 0)), Mp placeV Value.string placeOk mg15 (M), Old w no] := H44
                    refine g_weak [(0, .slice p l.length c), (1, .int .i64 ((V0 : Int))), (2, .slice po no_ co), (9, .pointer (some ⟨tg14, 0, none⟩)), (11, .int .i64 ((((tallN l.length) : Nat) : Int))), (13, .slice q lf.length d), (15, .int .i64 ((j : Int))), (16, .int .i64 ((at_ : Int)))] ⟨rfl, rfl, rfl, rfl, rfl, rfl, rfl, rfl, trivial⟩ ?_
                    refine g_seq ?_
                    refine g_region ?_
                    refine l_of (s_val (v := .slice p l.length c) (wt0 rfl) rfl rfl (x_move rfl rfl) ?_)
                    refine l_of (s_val (v := .int .i64 ((V0 : Int))) (wt0 rfl) rfl rfl (x_move rfl rfl) ?_)
                    refine l_of (s_val (v := .slice q lf.length d) (wt0 rfl) rfl rfl (x_move rfl rfl) ?_)
                    refine l_of (s_val (v := .int .i64 ((at_ : Int))) (wt0 rfl) rfl rfl (x_move rfl rfl) ?_)
                    refine l_of (s_val (v := .pointer ((q).map fun q => q.add (at_ * 1))) (wt0 rfl) rfl rfl (x_idxR at_ (hX _ (H44.at (k := 0) rfl)) rfl rfl rfl Try.underlying54 sz3 (by omega)) ?_)
                    refine l_of (s_val (v := .int .i64 (((lf.getD (at_) 0 : Nat) : Int))) (wt0 rfl) rfl rfl (x_loadR1 at_ (hX _ (H44.at (k := 0) rfl)) (by omega) rfl rfl Try.underlying3 rfl (intV_at (by omega))) ?_)
                    have hli := hlf _ (getD_mem hat)
                    have hcl2 := count_le (n := l.length) (v := V0) (by omega) (by omega) (by omega)
                    have hpw2 : 2 ^ ((tallN l.length) - V0) ≤ 4096 := Nat.pow_le_pow_right (by omega) (show (tallN l.length) - V0 ≤ 12 by omega)
                    have hrn49 := run_t l p l.length c rfl hm2 (V0 : Int) ((lf.getD at_ 0) : Int) 1 (by omega) wq43 (H44.oldReads (k := 3) rfl hr)
                    rw [run_one hce (by omega) (by omega)] at hrn49
                    refine l_of (s_call (wt0 rfl) (x_call' rfl rfl cl28) (hrn49) ?_)
                    rintro _ wq50 ⟨p45, c46, p47, c48, rfl, H51⟩
                    replace H51 : S wq50 [Rw 9 1 p45 [nodeT l V0 (lf.getD at_ 0)].length c46 (stV [nodeT l V0 (lf.getD at_ 0)]), Rw 9 1 p47 (uncTo l V0 (lf.getD at_ 0) ((tallN l.length) - V0)).length c48 (stV (uncTo l V0 (lf.getD at_ 0) ((tallN l.length) - V0))), X, Ob tg14 (.cells #[.int .i64 ((l.length : Int)), .int .i64 (((tallN l.length) : Int)), .string ((rootS l).1), .map (some mg15)] 96 (0, 0)), Mp placeV Value.string placeOk mg15 (M), Old w no] := H44.absorb (new := [Rw 9 1 p45 [nodeT l V0 (lf.getD at_ 0)].length c46 (stV [nodeT l V0 (lf.getD at_ 0)]), Rw 9 1 p47 (uncTo l V0 (lf.getD at_ 0) ((tallN l.length) - V0)).length c48 (stV (uncTo l V0 (lf.getD at_ 0) ((tallN l.length) - V0)))]) H51
                    refine b_ret rfl rfl ?_
                    refine l_of (s_val (v := .tuple #[.slice p45 [nodeT l V0 (lf.getD at_ 0)].length c46, .slice p47 (uncTo l V0 (lf.getD at_ 0) ((tallN l.length) - V0)).length c48, .int .i64 0]) (wt0 rfl) rfl rfl (x_move rfl rfl) ?_)
                    refine l_of (s_val (v := .slice p45 [nodeT l V0 (lf.getD at_ 0)].length c46) (wt0 rfl) rfl rfl (x_extract rfl rfl rfl) ?_)
                    refine l_of (s_val (v := .slice p47 (uncTo l V0 (lf.getD at_ 0) ((tallN l.length) - V0)).length c48) (wt0 rfl) rfl rfl (x_extract rfl rfl rfl) ?_)
                    refine l_of (s_val (v := .int .i64 0) (wt0 rfl) rfl rfl (x_extract rfl rfl rfl) ?_)
                    refine l_of (s_val (v := .slice p45 [nodeT l V0 (lf.getD at_ 0)].length c46) (wt0 rfl) rfl rfl (x_assign rfl rfl) ?_)
                    refine l_of (s_val (v := .slice p47 (uncTo l V0 (lf.getD at_ 0) ((tallN l.length) - V0)).length c48) (wt0 rfl) rfl rfl (x_assign rfl rfl) ?_)
                    refine l_of (s_val (v := .int .i64 0) (wt0 rfl) rfl rfl (x_assign rfl rfl) ?_)
                    refine g_nil ?_
                    refine g_then ?_
                    refine g_seq ?_
                    refine g_seq ?_
                    refine g_region ?_
                    refine l_of (s_val (v := .int .i64 0) (wt0 rfl) rfl rfl (x_move rfl rfl) ?_)
                    refine l_of (s_val (v := .bool (!decide ((0 : Int) = 0))) (wt0 rfl) rfl rfl (x_bin rfl rfl rfl b_neq) ?_)
                    refine l_of (s_val (v := .bool (!decide ((0 : Int) = 0))) (wt0 rfl) rfl rfl (x_move rfl rfl) ?_)
                    refine l_of (s_val (v := .pointer (some ⟨tg14, 0, none⟩)) (wt1 rfl rfl rfl rfl (nf rfl)) rfl rfl (x_move rfl rfl) ?_)
                    refine l_of (s_val (v := .int .i64 ((V0 : Int))) (wt1 rfl rfl rfl rfl (nf rfl)) rfl rfl (x_move rfl rfl) ?_)
                    refine l_of (s_val (v := .slice q lf.length d) (wt1 rfl rfl rfl rfl (nf rfl)) rfl rfl (x_move rfl rfl) ?_)
                    refine l_of (s_val (v := .int .i64 ((at_ : Int))) (wt1 rfl rfl rfl rfl (nf rfl)) rfl rfl (x_move rfl rfl) ?_)
                    refine l_of (s_val (v := .pointer ((q).map fun q => q.add (at_ * 1))) (wt1 rfl rfl rfl rfl (nf rfl)) rfl rfl (x_idxR at_ (hX _ (H51.at (k := 2) rfl)) rfl rfl rfl Try.underlying54 sz3 (by omega)) ?_)
                    refine l_of (s_val (v := .int .i64 (((lf.getD (at_) 0 : Nat) : Int))) (wt1 rfl rfl rfl rfl (nf rfl)) rfl rfl (x_loadR1 at_ (hX _ (H51.at (k := 2) rfl)) (by omega) rfl rfl Try.underlying3 rfl (intV_at (by omega))) ?_)
                    refine l_of (s_val (v := .slice p45 [nodeT l V0 (lf.getD at_ 0)].length c46) (wt1 rfl rfl rfl rfl (nf rfl)) rfl rfl (x_move rfl rfl) ?_)
                    refine l_of (s_val (v := .slice p47 (uncTo l V0 (lf.getD at_ 0) ((tallN l.length) - V0)).length c48) (wt1 rfl rfl rfl rfl (nf rfl)) rfl rfl (x_move rfl rfl) ?_)
                    have had52 := add_s tg14 mg15 l.length (tallN l.length) (rootS l).1 M _ _ (V0 : Int) ((lf.getD at_ 0) : Int) [nodeT l V0 (lf.getD at_ 0)] (uncTo l V0 (lf.getD at_ 0) ((tallN l.length) - V0)) p45 p47 c46 c48 ht12 (by (show 1 ≤ 1099511627776); omega) (by rw [uncTo_len]; omega) wq50 (H51.takes [3, 4, 0, 1] (by decide)) (fun W h _ => reads_rw h) (fun W _ h => reads_rw h)
                    rw [add_one hce (by omega) (by omega)] at had52
                    refine l_of (s_call (wt1 rfl rfl rfl rfl (nf rfl)) (x_call' rfl rfl cl39) (had52) ?_)
                    rintro _ wq53 ⟨rfl, H54⟩
                    replace H54 : S wq53 [Ob tg14 (.cells #[.int .i64 ((l.length : Int)), .int .i64 (((tallN l.length) : Int)), .string ((rootS l).1), .map (some mg15)] 96 (0, 0)), Mp placeV Value.string placeOk mg15 (addM (tallN l.length) (rootS l).1 (V0 : Int) ((lf.getD at_ 0 : Nat) : Int) [nodeT l V0 (lf.getD at_ 0)] (uncTo l V0 (lf.getD at_ 0) ((tallN l.length) - V0)) M), Rw 9 1 p45 [nodeT l V0 (lf.getD at_ 0)].length c46 (stV [nodeT l V0 (lf.getD at_ 0)]), Rw 9 1 p47 (uncTo l V0 (lf.getD at_ 0) ((tallN l.length) - V0)).length c48 (stV (uncTo l V0 (lf.getD at_ 0) ((tallN l.length) - V0))), X, Old w no] := H51.absorbI (new := [Ob tg14 (.cells #[.int .i64 ((l.length : Int)), .int .i64 (((tallN l.length) : Int)), .string ((rootS l).1), .map (some mg15)] 96 (0, 0)), Mp placeV Value.string placeOk mg15 (addM (tallN l.length) (rootS l).1 (V0 : Int) ((lf.getD at_ 0 : Nat) : Int) [nodeT l V0 (lf.getD at_ 0)] (uncTo l V0 (lf.getD at_ 0) ((tallN l.length) - V0)) M), Rw 9 1 p45 [nodeT l V0 (lf.getD at_ 0)].length c46 (stV [nodeT l V0 (lf.getD at_ 0)]), Rw 9 1 p47 (uncTo l V0 (lf.getD at_ 0) ((tallN l.length) - V0)).length c48 (stV (uncTo l V0 (lf.getD at_ 0) ((tallN l.length) - V0)))]) [3, 4, 0, 1] H54
                    refine b_ret rfl rfl ?_
                    refine l_of (s_val (v := .bool (!decide ((0 : Int) = 0))) (wt1 rfl rfl rfl rfl (nf rfl)) rfl rfl (x_bin rfl rfl rfl b_neq) ?_)
                    refine l_of (s_val (v := .bool (!decide ((0 : Int) = 0))) (wt0 rfl) rfl rfl (x_pick_f rfl rfl (nf rfl) rfl) ?_)
                    refine g_nil ?_
                    refine g_then ?_
                    refine g_weak [(0, .slice p l.length c), (1, .int .i64 ((V0 : Int))), (2, .slice po no_ co), (9, .pointer (some ⟨tg14, 0, none⟩)), (11, .int .i64 ((((tallN l.length) : Nat) : Int))), (13, .slice q lf.length d), (15, .int .i64 ((j : Int))), (16, .int .i64 ((at_ : Int))), (139, .bool (!decide ((0 : Int) = 0)))] ⟨rfl, rfl, rfl, rfl, rfl, rfl, rfl, rfl, rfl, trivial⟩ ?_
                    refine g_cond_f rfl (nf rfl) ?_
                    refine g_skip ?_
                    refine g_then ?_
                    refine g_any [] (fun _ => True) [] (by kernel_rfl) H54 (fun wq55 H56 => ?_)
                    refine a_pure (v := .slice q lf.length d) 0 rfl (wt0 rfl) rfl rfl rfl (by kernel_rfl) (by kernel_rfl) (by kernel_rfl) (.inr fun _ => trivial) (fun wx => x_move rfl rfl) ?_
                    refine a_pure (v := .int .i64 ((at_ : Int))) 1 rfl (wt0 rfl) rfl rfl rfl (by kernel_rfl) (by kernel_rfl) (by kernel_rfl) (.inr fun _ => trivial) (fun wx => x_move rfl rfl) ?_
                    refine a_pure (v := .int .i64 ((at_ : Int))) 2 rfl (wt0 rfl) rfl rfl rfl (by kernel_rfl) (by kernel_rfl) (by kernel_rfl) (.inr fun _ => trivial) (fun wx => x_move rfl rfl) ?_
                    refine a_pure (v := .slice q lf.length d) 4 rfl (wt0 rfl) rfl rfl rfl (by kernel_rfl) (by kernel_rfl) (by kernel_rfl) (.inr fun _ => trivial) (fun wx => x_move rfl rfl) ?_
                    refine a_pure (v := .int .i64 ((at_ : Int))) 5 rfl (wt0 rfl) rfl rfl rfl (by kernel_rfl) (by kernel_rfl) (by kernel_rfl) (.inr fun _ => trivial) (fun wx => x_move rfl rfl) ?_
                    refine a_pure (v := .int .i64 (((at_ + 1 : Nat) : Int))) 6 rfl (wt0 rfl) rfl rfl rfl (by kernel_rfl) (by kernel_rfl) (by kernel_rfl) (.inr fun _ => trivial) (fun wx => x_bin rfl rfl rfl (b_addN (a := at_) (b := 1) (by omega))) ?_
                    refine a_pure (v := .slice (cutP q (at_ + 1) d 1) (lf.length - (at_ + 1)) (d - (at_ + 1))) 7 rfl (wt0 rfl) rfl rfl rfl (by kernel_rfl) (by kernel_rfl) (by kernel_rfl) (.inr fun _ => trivial) (fun wx => x_cut (at_ + 1) rfl rfl rfl Try.underlying54 sz3 (by omega)) ?_
                    refine a_one (i := 3) (by kernel_rfl) rfl ?_
                    have hXd := (hX _ (H56.at (k := 4) rfl)).2.1
                    refine s_val (v := .slice (clipP q at_ 1) at_ at_) (wt0 rfl) rfl rfl (x_clip at_ at_ rfl rfl rfl rfl Try.underlying54 sz3 (by omega)) ?_
                    refine a_k trivial ?_
                    refine a_one (i := 8) (by kernel_rfl) rfl ?_
                    by_cases hm0 : lf.length - (at_ + 1) = 0
                    · skip
                      rw [hm0]
                      refine s_append0 (wt0 rfl) rfl rfl rfl rfl rfl Try.underlying54 inf3 (Nat.le_refl _) ?_
                      refine a_k trivial ?_
                      refine a_pure (v := .slice (clipP q at_ 1) at_ at_) 9 rfl (wt0 rfl) rfl rfl rfl (by kernel_rfl) (by kernel_rfl) (by kernel_rfl) (.inr fun _ => trivial) (fun wx => x_assign rfl rfl) ?_
                      refine a_done (by kernel_rfl) ?_
                      refine g_in ?_
                      refine g_then ?_
                      refine g_region ?_
                      refine l_of (s_val (v := .int .i64 ((j : Int))) (wt0 rfl) rfl rfl (x_move rfl rfl) ?_)
                      refine l_of (s_val (v := .int .i64 (((j + 1 : Nat) : Int))) (wt0 rfl) rfl rfl (x_bin rfl rfl rfl (b_addN (a := j) (b := 1) (by omega))) ?_)
                      refine l_of (s_val (v := .int .i64 (((j + 1 : Nat) : Int))) (wt0 rfl) rfl rfl (x_assign rfl rfl) ?_)
                      refine g_nil ?_
                      refine g_then ?_
                      have hle : (lf.eraseIdx at_).length = lf.length - 1 := by rw [List.length_eraseIdx_of_lt (by omega)]
                      have hm1 := add_one (l := l) (v := V0) (i := (lf.getD at_ 0)) hce (by omega) (by omega)
                      have hMo : addM (tallN l.length) (rootS l).1 (V0 : Int) ((lf.getD at_ 0 : Nat) : Int) [nodeT l V0 (lf.getD at_ 0)] (uncTo l V0 (lf.getD at_ 0) ((tallN l.length) - V0)) M = orM (provM V0 (lf.getD at_ 0) [nodeT l V0 (lf.getD at_ 0)] (uncTo l V0 (lf.getD at_ 0) ((tallN l.length) - V0))) M := by unfold addM; rw [if_pos hm1, Int.toNat_natCast, Int.toNat_natCast]
                      have hR2 : Right l (addM (tallN l.length) (rootS l).1 (V0 : Int) ((lf.getD at_ 0 : Nat) : Int) [nodeT l V0 (lf.getD at_ 0)] (uncTo l V0 (lf.getD at_ 0) ((tallN l.length) - V0)) M) := by rw [hMo]; exact right_or (right_one hc1 (by omega) (by omega) (by omega)) hR
                      have hK2 : ∀ i, i < (countN l.length V0) → i ∉ lf.eraseIdx at_ → ∀ s, s ≤ (tallN l.length) - V0 → ((addM (tallN l.length) (rootS l).1 (V0 : Int) ((lf.getD at_ 0 : Nat) : Int) [nodeT l V0 (lf.getD at_ 0)] (uncTo l V0 (lf.getD at_ 0) ((tallN l.length) - V0)) M) (V0 + s, i / 2 ^ s)).isSome = true := fun i hi hno s hs => by
                        rw [hMo]
                        rcases erase_mem hno (by omega) with h | h
                        · exact or_keep (hK i hi h s hs)
                        · rw [h]; exact or_new (one_path (by rw [uncTo_len]; exact hs))
                      have hX2 : ∀ W, X.ok W → Reads W (clipP q at_ 1) (lf.eraseIdx at_).length at_ 1 (intV (lf.eraseIdx at_)) := fun W h => by
                        have h2 := (hX W h).clip at_ (by omega)
                        rw [hle, show lf.length - 1 = at_ from by omega, ← intV_cut, show lf.length - (at_ + 1) = 0 from by omega, Nat.zero_mul, List.take_zero, List.append_nil]; exact h2
                      have H57 : S wq55 [X, Ob tg14 (.cells #[.int .i64 ((l.length : Int)), .int .i64 (((tallN l.length) : Int)), .string ((rootS l).1), .map (some mg15)] 96 (0, 0)), Mp placeV Value.string placeOk mg15 (addM (tallN l.length) (rootS l).1 (V0 : Int) ((lf.getD at_ 0 : Nat) : Int) [nodeT l V0 (lf.getD at_ 0)] (uncTo l V0 (lf.getD at_ 0) ((tallN l.length) - V0)) M), Old w no] := H56.takes [4, 0, 1, 5] (by decide)
                      rw [show (Value.slice (clipP q at_ 1) at_ at_) = .slice (clipP q at_ 1) (lf.eraseIdx at_).length at_ from by rw [hle, show lf.length - 1 = at_ from by omega]]
                      refine g_round (i := (X, q, d, lf, M, j)) (X, (clipP q at_ 1), at_, (lf.eraseIdx at_), (addM (tallN l.length) (rootS l).1 (V0 : Int) ((lf.getD at_ 0 : Nat) : Int) [nodeT l V0 (lf.getD at_ 0)] (uncTo l V0 (lf.getD at_ 0) ((tallN l.length) - V0)) M), j + 1) ?_ ?_ ?_
                      · exact ⟨rfl, rfl, rfl, rfl, rfl, rfl, rfl, trivial⟩
                      · exact ⟨hX2, (fun i hi => hlf i (List.mem_of_mem_eraseIdx hi)), (by omega), hR2, hK2, (by omega), H57⟩
                      · (try dsimp only); omega
                    · skip
                      refine s_appendFull2 H56 (wt0 rfl) rfl rfl rfl rfl rfl ((hX _ (H56.at (k := 4) rfl)).clip at_ (by omega)) (clip_some (hX _ (H56.at (k := 4) rfl)) at_ (by omega)) Try.underlying54 inf3 rfl (by decide) (by decide) ((hX _ (H56.at (k := 4) rfl)).cut (at_ + 1) lf.length (by omega) (Nat.le_refl _)) (by omega) (by rw [List.all_eq_true]; intro v hv; exact List.all_eq_true.1 (intV_one lf) v (List.mem_of_mem_drop (List.mem_of_mem_take hv))) (by omega) ?_
                      intro p58 c59 wq60 H61
                      replace H61 : S wq60 [Rw 3 1 p58 (at_ + (lf.length - (at_ + 1))) c59 ((intV lf).take (at_ * 1) ++ ((intV lf).drop ((at_ + 1) * 1)).take ((lf.length - (at_ + 1)) * 1)), Ob tg14 (.cells #[.int .i64 ((l.length : Int)), .int .i64 (((tallN l.length) : Int)), .string ((rootS l).1), .map (some mg15)] 96 (0, 0)), Mp placeV Value.string placeOk mg15 (addM (tallN l.length) (rootS l).1 (V0 : Int) ((lf.getD at_ 0 : Nat) : Int) [nodeT l V0 (lf.getD at_ 0)] (uncTo l V0 (lf.getD at_ 0) ((tallN l.length) - V0)) M), Rw 9 1 p45 [nodeT l V0 (lf.getD at_ 0)].length c46 (stV [nodeT l V0 (lf.getD at_ 0)]), Rw 9 1 p47 (uncTo l V0 (lf.getD at_ 0) ((tallN l.length) - V0)).length c48 (stV (uncTo l V0 (lf.getD at_ 0) ((tallN l.length) - V0))), X, Old w no] := H61
                      refine a_k trivial ?_
                      refine a_pure (v := .slice p58 (at_ + (lf.length - (at_ + 1))) c59) 9 rfl (wt0 rfl) rfl rfl rfl (by kernel_rfl) (by kernel_rfl) (by kernel_rfl) (.inr fun _ => trivial) (fun wx => x_assign rfl rfl) ?_
                      refine a_done (by kernel_rfl) ?_
                      refine g_in ?_
                      refine g_then ?_
                      refine g_region ?_
                      refine l_of (s_val (v := .int .i64 ((j : Int))) (wt0 rfl) rfl rfl (x_move rfl rfl) ?_)
                      refine l_of (s_val (v := .int .i64 (((j + 1 : Nat) : Int))) (wt0 rfl) rfl rfl (x_bin rfl rfl rfl (b_addN (a := j) (b := 1) (by omega))) ?_)
                      refine l_of (s_val (v := .int .i64 (((j + 1 : Nat) : Int))) (wt0 rfl) rfl rfl (x_assign rfl rfl) ?_)
                      refine g_nil ?_
                      refine g_then ?_
                      have hle : (lf.eraseIdx at_).length = lf.length - 1 := by rw [List.length_eraseIdx_of_lt (by omega)]
                      have hm1 := add_one (l := l) (v := V0) (i := (lf.getD at_ 0)) hce (by omega) (by omega)
                      have hMo : addM (tallN l.length) (rootS l).1 (V0 : Int) ((lf.getD at_ 0 : Nat) : Int) [nodeT l V0 (lf.getD at_ 0)] (uncTo l V0 (lf.getD at_ 0) ((tallN l.length) - V0)) M = orM (provM V0 (lf.getD at_ 0) [nodeT l V0 (lf.getD at_ 0)] (uncTo l V0 (lf.getD at_ 0) ((tallN l.length) - V0))) M := by unfold addM; rw [if_pos hm1, Int.toNat_natCast, Int.toNat_natCast]
                      have hR2 : Right l (addM (tallN l.length) (rootS l).1 (V0 : Int) ((lf.getD at_ 0 : Nat) : Int) [nodeT l V0 (lf.getD at_ 0)] (uncTo l V0 (lf.getD at_ 0) ((tallN l.length) - V0)) M) := by rw [hMo]; exact right_or (right_one hc1 (by omega) (by omega) (by omega)) hR
                      have hK2 : ∀ i, i < (countN l.length V0) → i ∉ lf.eraseIdx at_ → ∀ s, s ≤ (tallN l.length) - V0 → ((addM (tallN l.length) (rootS l).1 (V0 : Int) ((lf.getD at_ 0 : Nat) : Int) [nodeT l V0 (lf.getD at_ 0)] (uncTo l V0 (lf.getD at_ 0) ((tallN l.length) - V0)) M) (V0 + s, i / 2 ^ s)).isSome = true := fun i hi hno s hs => by
                        rw [hMo]
                        rcases erase_mem hno (by omega) with h | h
                        · exact or_keep (hK i hi h s hs)
                        · rw [h]; exact or_new (one_path (by rw [uncTo_len]; exact hs))
                      have hX2 : ∀ W, (Rw 3 1 p58 (at_ + (lf.length - (at_ + 1))) c59 (intV (lf.eraseIdx at_))).ok W → Reads W p58 (lf.eraseIdx at_).length c59 1 (intV (lf.eraseIdx at_)) := fun W h => by rw [hle, show lf.length - 1 = at_ + (lf.length - (at_ + 1)) from by omega]; exact reads_rw h
                      have H62 : S wq60 [Rw 3 1 p58 (at_ + (lf.length - (at_ + 1))) c59 (intV (lf.eraseIdx at_)), Ob tg14 (.cells #[.int .i64 ((l.length : Int)), .int .i64 (((tallN l.length) : Int)), .string ((rootS l).1), .map (some mg15)] 96 (0, 0)), Mp placeV Value.string placeOk mg15 (addM (tallN l.length) (rootS l).1 (V0 : Int) ((lf.getD at_ 0 : Nat) : Int) [nodeT l V0 (lf.getD at_ 0)] (uncTo l V0 (lf.getD at_ 0) ((tallN l.length) - V0)) M), Old w no] := by rw [← intV_cut]; exact H61.takes [0, 1, 2, 6] (by decide)
                      rw [show at_ + (lf.length - (at_ + 1)) = (lf.eraseIdx at_).length from by omega]
                      refine g_round (i := (X, q, d, lf, M, j)) ((Rw 3 1 p58 (at_ + (lf.length - (at_ + 1))) c59 (intV (lf.eraseIdx at_))), p58, c59, (lf.eraseIdx at_), (addM (tallN l.length) (rootS l).1 (V0 : Int) ((lf.getD at_ 0 : Nat) : Int) [nodeT l V0 (lf.getD at_ 0)] (uncTo l V0 (lf.getD at_ 0) ((tallN l.length) - V0)) M), j + 1) ?_ ?_ ?_
                      · exact ⟨rfl, rfl, rfl, rfl, rfl, rfl, rfl, trivial⟩
                      · exact ⟨hX2, (fun i hi => hlf i (List.mem_of_mem_eraseIdx hi)), (by omega), hR2, hK2, (by omega), H62⟩
                      · (try dsimp only); omega
                  · skip
                    have hlf0 : lf = [] := List.eq_nil_of_length_eq_zero (by omega)
                    subst hlf0
                    have hKA : ∀ i, i < (countN l.length V0) → ∀ s, s ≤ (tallN l.length) - V0 → (M (V0 + s, i / 2 ^ s)).isSome = true := fun i hi => hK i hi (by simp)
                    refine g_cond_f rfl (decide_eq_false hb40) ?_
                    refine g_exit ?_
                    refine g_then_exit ?_
                    refine g_then_exit ?_
                    refine g_in_hit ?_
                    refine g_then ?_
                    refine g_seq ?_
                    refine g_seq ?_
                    refine g_region ?_
                    refine l_of (s_val (v := .int .i64 ((V0 : Int))) (wt0 rfl) rfl rfl (x_move rfl rfl) ?_)
                    refine l_of (s_val (v := .int .i64 ((V0 : Int))) (wt0 rfl) rfl rfl (x_assign rfl rfl) ?_)
                    refine g_nil ?_
                    refine g_then ?_
                    refine g_block ?_
                    refine g_loop (ι := Nat) (fun a => [(0, .slice p l.length c), (9, .pointer (some ⟨tg14, 0, none⟩)), (11, .int .i64 ((((tallN l.length) : Nat) : Int))), (20, .int .i64 ((a : Int)))]) (fun a wx => (V0 ≤ a ∧ a ≤ (tallN l.length) + 1) ∧ S wx [Ob tg14 (.cells #[.int .i64 ((l.length : Int)), .int .i64 (((tallN l.length) : Int)), .string ((rootS l).1), .map (some mg15)] 96 (0, 0)), Mp placeV Value.string placeOk mg15 (M), Old w no]) (fun a => (tallN l.length) + 1 - a) (V0) ⟨rfl, rfl, rfl, rfl, trivial⟩ ⟨(by omega), (H39.takes [1, 2, 3] (by decide))⟩ ?_
                    rintro a wq63 ⟨ha, H64⟩
                    replace H64 : S wq63 [Ob tg14 (.cells #[.int .i64 ((l.length : Int)), .int .i64 (((tallN l.length) : Int)), .string ((rootS l).1), .map (some mg15)] 96 (0, 0)), Mp placeV Value.string placeOk mg15 (M), Old w no] := H64
                    refine g_weak [(0, .slice p l.length c), (9, .pointer (some ⟨tg14, 0, none⟩)), (11, .int .i64 ((((tallN l.length) : Nat) : Int))), (20, .int .i64 ((a : Int)))] ⟨rfl, rfl, rfl, rfl, trivial⟩ ?_
                    refine g_seq ?_
                    refine g_seq ?_
                    refine g_region ?_
                    refine l_of (s_val (v := .int .i64 ((a : Int))) (wt0 rfl) rfl rfl (x_move rfl rfl) ?_)
                    refine l_of (s_val (v := .int .i64 ((((tallN l.length) : Nat) : Int))) (wt0 rfl) rfl rfl (x_move rfl rfl) ?_)
                    refine l_of (s_val (v := .bool (decide (((a : Int) : Int) ≤ (((tallN l.length) : Nat) : Int)))) (wt0 rfl) rfl rfl (x_bin rfl rfl rfl b_leq) ?_)
                    refine g_nil ?_
                    refine g_then ?_
                    by_cases hb65 : ((a : Int) : Int) ≤ (((tallN l.length) : Nat) : Int)
                    · skip
                      refine g_cond_t rfl (decide_eq_true hb65) ?_
                      refine g_skip ?_
                      refine g_then ?_
                      refine g_seq ?_
                      refine g_block ?_
                      refine g_seq ?_
                      refine g_region ?_
                      refine l_of (s_val (v := .slice p l.length c) (wt0 rfl) rfl rfl (x_move rfl rfl) ?_)
                      refine l_of (s_val (v := .int .i64 ((a : Int))) (wt0 rfl) rfl rfl (x_move rfl rfl) ?_)
                      have hlc := lvl_count (l := l) (by omega) a
                      have hcl2 := count_le (n := l.length) (v := a) (by omega) (by omega) (by omega)
                      have hpw2 : 2 ^ ((tallN l.length) - a) ≤ 4096 := Nat.pow_le_pow_right (by omega) (show (tallN l.length) - a ≤ 12 by omega)
                      have hly70 := layer_r l p l.length c rfl hm2 (a : Int) wq63 (H64.oldReads (k := 2) rfl hr)
                      rw [show layerS l (a : Int) = ((lvlS 0 l a), 0) from by unfold layerS; rw [if_pos hce, if_pos (by omega), Int.toNat_natCast]] at hly70
                      dsimp only at hly70
                      refine l_of (s_call (wt0 rfl) (x_call' rfl rfl cl23) (hly70) ?_)
                      rintro _ wq71 ⟨p66, c67, X68, rfl, hX69, H72⟩
                      replace H72 : S wq71 [X68, Ob tg14 (.cells #[.int .i64 ((l.length : Int)), .int .i64 (((tallN l.length) : Int)), .string ((rootS l).1), .map (some mg15)] 96 (0, 0)), Mp placeV Value.string placeOk mg15 (M), Old w no] := H64.absorb (new := [X68]) H72
                      refine b_ret rfl rfl ?_
                      refine l_of (s_val (v := .tuple #[.slice p66 (lvlS 0 l a).length c67, .int .i64 0]) (wt0 rfl) rfl rfl (x_move rfl rfl) ?_)
                      refine l_of (s_val (v := .slice p66 (lvlS 0 l a).length c67) (wt0 rfl) rfl rfl (x_extract rfl rfl rfl) ?_)
                      refine l_of (s_val (v := .int .i64 0) (wt0 rfl) rfl rfl (x_extract rfl rfl rfl) ?_)
                      refine l_of (s_val (v := .slice p66 (lvlS 0 l a).length c67) (wt0 rfl) rfl rfl (x_assign rfl rfl) ?_)
                      refine l_of (s_val (v := .int .i64 0) (wt0 rfl) rfl rfl (x_assign rfl rfl) ?_)
                      refine g_nil ?_
                      refine g_then ?_
                      refine g_seq ?_
                      refine g_region ?_
                      refine l_of (s_val (v := .pointer (some ⟨tg14, 0, none⟩)) (wt0 rfl) rfl rfl (x_move rfl rfl) ?_)
                      refine l_of (s_val (v := .int .i64 ((a : Int))) (wt0 rfl) rfl rfl (x_move rfl rfl) ?_)
                      have hkn73 := known_s tg14 mg15 l.length (tallN l.length) (rootS l).1 M (a : Int) hc1 hc2 ht12 wq71 (H72.takes [1, 2] (by decide))
                      rw [known_all (by omega) (fun b hb => by rw [all_known hce hR hKA (by omega) (by omega) hb]; rfl)] at hkn73
                      refine l_of (s_call (wt0 rfl) (x_call' rfl rfl cl40) (hkn73) ?_)
                      rintro _ wq74 ⟨rfl, H75⟩
                      replace H75 : S wq74 [Ob tg14 (.cells #[.int .i64 ((l.length : Int)), .int .i64 (((tallN l.length) : Int)), .string ((rootS l).1), .map (some mg15)] 96 (0, 0)), Mp placeV Value.string placeOk mg15 (M), X68, Old w no] := H72.absorbI (new := [Ob tg14 (.cells #[.int .i64 ((l.length : Int)), .int .i64 (((tallN l.length) : Int)), .string ((rootS l).1), .map (some mg15)] 96 (0, 0)), Mp placeV Value.string placeOk mg15 (M)]) [1, 2] H75
                      refine b_ret rfl rfl ?_
                      refine l_of (s_val (v := .tuple #[.int .i64 ((countN l.length a : Int)), .int .i64 0]) (wt0 rfl) rfl rfl (x_move rfl rfl) ?_)
                      refine l_of (s_val (v := .int .i64 ((countN l.length a : Int))) (wt0 rfl) rfl rfl (x_extract rfl rfl rfl) ?_)
                      refine l_of (s_val (v := .int .i64 0) (wt0 rfl) rfl rfl (x_extract rfl rfl rfl) ?_)
                      refine l_of (s_val (v := .int .i64 ((countN l.length a : Int))) (wt0 rfl) rfl rfl (x_assign rfl rfl) ?_)
                      refine l_of (s_val (v := .int .i64 0) (wt0 rfl) rfl rfl (x_assign rfl rfl) ?_)
                      refine g_nil ?_
                      refine g_then ?_
                      refine g_weak [(0, .slice p l.length c), (9, .pointer (some ⟨tg14, 0, none⟩)), (11, .int .i64 ((((tallN l.length) : Nat) : Int))), (20, .int .i64 ((a : Int))), (21, .slice p66 (lvlS 0 l a).length c67), (23, .int .i64 ((countN l.length a : Int))), (24, .int .i64 0)] ⟨rfl, rfl, rfl, rfl, rfl, rfl, rfl, trivial⟩ ?_
                      refine g_seq ?_
                      refine g_seq ?_
                      refine g_region ?_
                      refine l_of (s_val (v := .int .i64 ((countN l.length a : Int))) (wt0 rfl) rfl rfl (x_move rfl rfl) ?_)
                      refine l_of (s_val (v := .slice p66 (lvlS 0 l a).length c67) (wt0 rfl) rfl rfl (x_move rfl rfl) ?_)
                      refine l_of (s_val (v := .int .i64 (((lvlS 0 l a).length : Int))) (wt0 rfl) rfl rfl (x_lenl rfl rfl Try.underlying22) ?_)
                      refine l_of (s_val (v := .bool (!decide (((countN l.length a : Int) : Int) = ((lvlS 0 l a).length : Int)))) (wt0 rfl) rfl rfl (x_bin rfl rfl rfl b_neq) ?_)
                      refine l_of (s_val (v := .bool (!decide (((countN l.length a : Int) : Int) = ((lvlS 0 l a).length : Int)))) (wt0 rfl) rfl rfl (x_move rfl rfl) ?_)
                      by_cases hb76 : ((countN l.length a : Int) : Int) = ((lvlS 0 l a).length : Int)
                      · skip
                        refine l_of (s_val (v := .int .i64 0) (wt1 rfl rfl rfl rfl (nf hb76)) rfl rfl (x_move rfl rfl) ?_)
                        refine l_of (s_val (v := .bool (!decide ((0 : Int) = 0))) (wt1 rfl rfl rfl rfl (nf hb76)) rfl rfl (x_bin rfl rfl rfl b_neq) ?_)
                        refine l_of (s_val (v := .bool (!decide ((0 : Int) = 0))) (wt0 rfl) rfl rfl (x_pick_f rfl rfl (nf hb76) rfl) ?_)
                        refine g_nil ?_
                        refine g_then ?_
                        refine g_cond_f rfl (nf rfl) ?_
                        refine g_skip ?_
                        refine g_then ?_
                        refine g_seq ?_
                        refine g_region ?_
                        refine l_of (s_val (v := .slice p66 (lvlS 0 l a).length c67) (wt0 rfl) rfl rfl (x_move rfl rfl) ?_)
                        refine l_of (s_val (v := .int .i64 (((lvlS 0 l a).length : Int))) (wt0 rfl) rfl rfl (x_lenl rfl rfl Try.underlying22) ?_)
                        refine l_of (s_val (v := .int .i64 0) (wt0 rfl) rfl rfl (x_move rfl rfl) ?_)
                        refine g_nil ?_
                        refine g_then ?_
                        refine g_block ?_
                        refine g_loop (ι := Nat) (fun b => [(0, .slice p l.length c), (9, .pointer (some ⟨tg14, 0, none⟩)), (11, .int .i64 ((((tallN l.length) : Nat) : Int))), (20, .int .i64 ((a : Int))), (175, .slice p66 (lvlS 0 l a).length c67), (176, .int .i64 (((lvlS 0 l a).length : Int))), (177, .int .i64 ((b : Int)))]) (fun b wx => (b ≤ (lvlS 0 l a).length) ∧ S wx [Ob tg14 (.cells #[.int .i64 ((l.length : Int)), .int .i64 (((tallN l.length) : Int)), .string ((rootS l).1), .map (some mg15)] 96 (0, 0)), Mp placeV Value.string placeOk mg15 (M), X68, Old w no]) (fun b => (lvlS 0 l a).length - b) (0) ⟨rfl, rfl, rfl, rfl, rfl, rfl, rfl, trivial⟩ ⟨Nat.zero_le _, H75⟩ ?_
                        rintro b wq77 ⟨hb, H78⟩
                        replace H78 : S wq77 [Ob tg14 (.cells #[.int .i64 ((l.length : Int)), .int .i64 (((tallN l.length) : Int)), .string ((rootS l).1), .map (some mg15)] 96 (0, 0)), Mp placeV Value.string placeOk mg15 (M), X68, Old w no] := H78
                        refine g_weak [(0, .slice p l.length c), (9, .pointer (some ⟨tg14, 0, none⟩)), (11, .int .i64 ((((tallN l.length) : Nat) : Int))), (20, .int .i64 ((a : Int))), (175, .slice p66 (lvlS 0 l a).length c67), (176, .int .i64 (((lvlS 0 l a).length : Int))), (177, .int .i64 ((b : Int)))] ⟨rfl, rfl, rfl, rfl, rfl, rfl, rfl, trivial⟩ ?_
                        refine g_seq ?_
                        refine g_region ?_
                        refine l_of (s_val (v := .bool (decide (((b : Int) : Int) < ((lvlS 0 l a).length : Int)))) (wt0 rfl) rfl rfl (x_bin rfl rfl rfl b_lss) ?_)
                        refine g_nil ?_
                        refine g_then ?_
                        refine g_seq ?_
                        by_cases hb79 : ((b : Int) : Int) < ((lvlS 0 l a).length : Int)
                        · skip
                          refine g_cond_t rfl (decide_eq_true hb79) ?_
                          refine g_skip ?_
                          refine g_then ?_
                          refine g_seq ?_
                          refine g_block ?_
                          refine g_seq ?_
                          refine g_region ?_
                          refine l_of (s_val (v := .int .i64 ((b : Int))) (wt0 rfl) rfl rfl (x_move rfl rfl) ?_)
                          refine l_of (s_val (v := .pointer ((p66).map fun q => q.add (b * 1))) (wt0 rfl) rfl rfl (x_idxR b (hX69 _ (H78.at (k := 2) rfl)) rfl rfl rfl Try.underlying22 sz9 (by omega)) ?_)
                          refine l_of (s_val (v := .string (((lvlS 0 l a).getD (b) ⟨#[]⟩))) (wt0 rfl) rfl rfl (x_loadR1 b (hX69 _ (H78.at (k := 2) rfl)) (by omega) rfl rfl Try.underlying9 rfl (stV_at (by omega))) ?_)
                          refine l_of (s_val (v := .int .i64 ((b : Int))) (wt0 rfl) rfl rfl (x_assign rfl rfl) ?_)
                          refine l_of (s_val (v := .string (((lvlS 0 l a).getD (b) ⟨#[]⟩))) (wt0 rfl) rfl rfl (x_assign rfl rfl) ?_)
                          refine g_nil ?_
                          refine g_then ?_
                          refine g_seq ?_
                          refine g_region ?_
                          refine l_of (s_val (v := .pointer (some ⟨tg14, 0, none⟩)) (wt0 rfl) rfl rfl (x_move rfl rfl) ?_)
                          refine l_of (s_val (v := .int .i64 ((a : Int))) (wt0 rfl) rfl rfl (x_move rfl rfl) ?_)
                          refine l_of (s_val (v := .int .i64 ((b : Int))) (wt0 rfl) rfl rfl (x_move rfl rfl) ?_)
                          have hgt80 := getG_s tg14 mg15 l.length (tallN l.length) (rootS l).1 M (a : Int) (b : Int) hc1 hc2 ht12 wq77 (H78.takes [0, 1] (by decide))
                          rw [get_all hce (by omega) (by omega) (all_known hce hR hKA (by omega) (by omega) (show b < countN l.length a by omega))] at hgt80
                          refine l_of (s_call (wt0 rfl) (x_call' rfl rfl cl41) (hgt80) ?_)
                          rintro _ wq81 ⟨rfl, H82⟩
                          replace H82 : S wq81 [Ob tg14 (.cells #[.int .i64 ((l.length : Int)), .int .i64 (((tallN l.length) : Int)), .string ((rootS l).1), .map (some mg15)] 96 (0, 0)), Mp placeV Value.string placeOk mg15 (M), X68, Old w no] := H78.absorbI (new := [Ob tg14 (.cells #[.int .i64 ((l.length : Int)), .int .i64 (((tallN l.length) : Int)), .string ((rootS l).1), .map (some mg15)] 96 (0, 0)), Mp placeV Value.string placeOk mg15 (M)]) [0, 1] H82
                          refine b_ret rfl rfl ?_
                          refine l_of (s_val (v := .tuple #[.string (((lvlS 0 l a).getD b ⟨#[]⟩)), .int .i64 0]) (wt0 rfl) rfl rfl (x_move rfl rfl) ?_)
                          refine l_of (s_val (v := .string (((lvlS 0 l a).getD b ⟨#[]⟩))) (wt0 rfl) rfl rfl (x_extract rfl rfl rfl) ?_)
                          refine l_of (s_val (v := .int .i64 0) (wt0 rfl) rfl rfl (x_extract rfl rfl rfl) ?_)
                          refine l_of (s_val (v := .string (((lvlS 0 l a).getD b ⟨#[]⟩))) (wt0 rfl) rfl rfl (x_assign rfl rfl) ?_)
                          refine l_of (s_val (v := .int .i64 0) (wt0 rfl) rfl rfl (x_assign rfl rfl) ?_)
                          refine g_nil ?_
                          refine g_then ?_
                          refine g_weak [(0, .slice p l.length c), (9, .pointer (some ⟨tg14, 0, none⟩)), (11, .int .i64 ((((tallN l.length) : Nat) : Int))), (20, .int .i64 ((a : Int))), (26, .string (((lvlS 0 l a).getD (b) ⟨#[]⟩))), (27, .string (((lvlS 0 l a).getD b ⟨#[]⟩))), (28, .int .i64 0), (175, .slice p66 (lvlS 0 l a).length c67), (176, .int .i64 (((lvlS 0 l a).length : Int))), (177, .int .i64 ((b : Int)))] ⟨rfl, rfl, rfl, rfl, rfl, rfl, rfl, rfl, rfl, rfl, trivial⟩ ?_
                          refine g_seq ?_
                          refine g_region ?_
                          refine l_of (s_val (v := .string (((lvlS 0 l a).getD b ⟨#[]⟩))) (wt0 rfl) rfl rfl (x_move rfl rfl) ?_)
                          refine l_of (s_val (v := .string (((lvlS 0 l a).getD (b) ⟨#[]⟩))) (wt0 rfl) rfl rfl (x_move rfl rfl) ?_)
                          refine l_of (s_val (v := .bool (!decide (((lvlS 0 l a).getD b ⟨#[]⟩) = ((lvlS 0 l a).getD (b) ⟨#[]⟩)))) (wt0 rfl) rfl rfl (x_bin rfl rfl rfl b_nes) ?_)
                          refine l_of (s_val (v := .bool (!decide (((lvlS 0 l a).getD b ⟨#[]⟩) = ((lvlS 0 l a).getD (b) ⟨#[]⟩)))) (wt0 rfl) rfl rfl (x_move rfl rfl) ?_)
                          refine l_of (s_val (v := .int .i64 0) (wt1 rfl rfl rfl rfl (nf rfl)) rfl rfl (x_move rfl rfl) ?_)
                          refine l_of (s_val (v := .bool (!decide ((0 : Int) = 0))) (wt1 rfl rfl rfl rfl (nf rfl)) rfl rfl (x_bin rfl rfl rfl b_neq) ?_)
                          refine l_of (s_val (v := .bool (!decide ((0 : Int) = 0))) (wt0 rfl) rfl rfl (x_pick_f rfl rfl (nf rfl) rfl) ?_)
                          refine g_nil ?_
                          refine g_then ?_
                          refine g_cond_f rfl (nf rfl) ?_
                          refine g_skip ?_
                          refine g_in ?_
                          refine g_then ?_
                          refine g_region ?_
                          refine l_of (s_val (v := .int .i64 ((b : Int) + 1)) (wt0 rfl) rfl rfl (x_bin rfl rfl rfl (b_add (w64 (by omega)))) ?_)
                          refine l_of (s_val (v := .int .i64 ((b : Int) + 1)) (wt0 rfl) rfl rfl (x_move rfl rfl) ?_)
                          refine g_nil ?_
                          refine g_then ?_
                          refine g_round (i := (b)) (b + 1) ?_ ?_ ?_
                          · exact ⟨rfl, rfl, rfl, rfl, rfl, rfl, rfl, trivial⟩
                          · exact ⟨by omega, (H82.takes [0, 1, 2, 3] (by decide))⟩
                          · (try dsimp only); omega
                        · skip
                          refine g_cond_f rfl (decide_eq_false hb79) ?_
                          refine g_exit ?_
                          refine g_then_exit ?_
                          refine g_then_exit ?_
                          refine g_in_hit ?_
                          refine g_in ?_
                          refine g_then ?_
                          refine g_region ?_
                          refine l_of (s_val (v := .int .i64 ((a : Int))) (wt0 rfl) rfl rfl (x_move rfl rfl) ?_)
                          refine l_of (s_val (v := .int .i64 (((a + 1 : Nat) : Int))) (wt0 rfl) rfl rfl (x_bin rfl rfl rfl (b_addN (a := a) (b := 1) (by omega))) ?_)
                          refine l_of (s_val (v := .int .i64 (((a + 1 : Nat) : Int))) (wt0 rfl) rfl rfl (x_assign rfl rfl) ?_)
                          refine g_nil ?_
                          refine g_then ?_
                          refine g_round (i := (a)) (a + 1) ?_ ?_ ?_
                          · exact ⟨rfl, rfl, rfl, rfl, trivial⟩
                          · exact ⟨(by omega), (H78.takes [0, 1, 3] (by decide))⟩
                          · (try dsimp only); omega
                      · skip
                        refine l_of (s_not (wn1 rfl rfl rfl rfl (nt hb76)) rfl rfl ?_)
                        refine l_of (s_not (wn1 rfl rfl rfl rfl (nt hb76)) rfl rfl ?_)
                        refine l_of (s_val (v := .bool true) (wt0 rfl) rfl rfl (x_pick_t rfl rfl (nt hb76) rfl) ?_)
                        refine g_nil ?_
                        refine g_then ?_
                        refine g_cond_t rfl rfl ?_
                        refine g_seq ?_
                        refine g_region ?_
                        refine l_of (s_val (v := .bool false) (wt0 rfl) rfl rfl (x_assign rfl rfl) ?_)
                        refine g_nil ?_
                        refine g_then ?_
                        refine g_weak [(6, .bool false)] ⟨rfl, trivial⟩ ?_
                        refine g_ret ?_
                        refine g_then_ret ?_
                        refine g_in_ret ?_
                        refine g_then_ret ?_
                        refine g_then_ret ?_
                        refine g_in_ret ?_
                        refine g_then_ret ?_
                        refine fin_ret [.tmp 6] [.bool false] rfl ⟨rfl, trivial⟩ ?_
                        first | exact absurd rfl hb76 | (have hre := root_err l; omega)
                    · skip
                      refine g_cond_f rfl (decide_eq_false hb65) ?_
                      refine g_exit ?_
                      refine g_then_exit ?_
                      refine g_then_exit ?_
                      refine g_in_hit ?_
                      refine g_then ?_
                      refine g_seq ?_
                      refine g_region ?_
                      refine l_of (s_call (wt0 rfl) (x_call' rfl rfl cl10) (awake_s _) ?_)
                      rintro _ wq83 ⟨rfl, H84⟩
                      replace H84 : S wq83 [Ob tg14 (.cells #[.int .i64 ((l.length : Int)), .int .i64 (((tallN l.length) : Int)), .string ((rootS l).1), .map (some mg15)] 96 (0, 0)), Mp placeV Value.string placeOk mg15 (M), Old w no] := H64.absorb (new := []) H84
                      refine b_ret rfl rfl ?_
                      refine l_of (s_val (v := .bool true) (wt0 rfl) rfl rfl (x_assign rfl rfl) ?_)
                      refine g_nil ?_
                      refine g_then ?_
                      refine g_ret ?_
                      refine fin_ret [.tmp 6] [.bool true] rfl ⟨rfl, trivial⟩ ?_
                      exact ⟨rfl, H84.mask [false, false, true]⟩
          · skip
            refine g_cond_t rfl (nt hb19) ?_
            refine g_seq ?_
            refine g_region ?_
            refine l_of (s_call (wt0 rfl) (x_call' rfl rfl cl10) (awake_s _) ?_)
            rintro _ wq85 ⟨rfl, H86⟩
            replace H86 : S wq85 [Ob tg14 (.cells #[.int .i64 ((l.length : Int)), .int .i64 (((tallN l.length) : Int)), .string ((rootS l).1), .map (some mg15)] 96 (0, 0)), Mp placeV Value.string placeOk mg15 (newT (tallN l.length) (rootS l).1), Old w no] := H18.absorb (new := []) H86
            refine b_ret rfl rfl ?_
            refine l_of (s_val (v := .bool true) (wt0 rfl) rfl rfl (x_assign rfl rfl) ?_)
            refine g_nil ?_
            refine g_then ?_
            refine g_weak [(6, .bool true)] ⟨rfl, trivial⟩ ?_
            refine g_ret ?_
            refine g_then_ret ?_
            refine fin_ret [.tmp 6] [.bool true] rfl ⟨rfl, trivial⟩ ?_
            exact ⟨rfl, H86.mask [false, false, true]⟩
        · skip
          refine l_of (s_call (wt0 rfl) (x_call' rfl rfl cl37) (new_bad (rootS l).1 _ (root_bad hce) _) ?_)
          rintro _ wq87 ⟨rfl, H88⟩
          replace H88 : S wq87 [Old w no] := H11.absorb (new := []) H88
          refine b_ret rfl rfl ?_
          refine l_of (s_val (v := .tuple #[.pointer none, .int .i64 1]) (wt0 rfl) rfl rfl (x_move rfl rfl) ?_)
          refine l_of (s_val (v := .pointer none) (wt0 rfl) rfl rfl (x_extract rfl rfl rfl) ?_)
          refine l_of (s_val (v := .int .i64 1) (wt0 rfl) rfl rfl (x_extract rfl rfl rfl) ?_)
          refine l_of (s_val (v := .pointer none) (wt0 rfl) rfl rfl (x_assign rfl rfl) ?_)
          refine l_of (s_val (v := .int .i64 1) (wt0 rfl) rfl rfl (x_assign rfl rfl) ?_)
          refine g_nil ?_
          refine g_then ?_
          refine g_weak [(0, .slice p l.length c), (1, .int .i64 v), (2, .slice po no_ co), (8, .int .i64 ((rootS l).2)), (9, .pointer none), (10, .int .i64 1)] ⟨rfl, rfl, rfl, rfl, rfl, rfl, trivial⟩ ?_
          refine g_seq ?_
          refine g_region ?_
          refine l_of (s_val (v := .slice p l.length c) (wt0 rfl) rfl rfl (x_move rfl rfl) ?_)
          refine l_of (s_val (v := .int .i64 ((l.length : Int))) (wt0 rfl) rfl rfl (x_lenl rfl rfl Try.underlying22) ?_)
          refine l_of (s_call (wt0 rfl) (x_call' rfl rfl cl16) (hgt_r _ _) ?_)
          rintro _ wq89 ⟨rfl, H90⟩
          replace H90 : S wq89 [Old w no] := H88.absorb (new := []) H90
          refine b_ret rfl rfl ?_
          refine l_of (s_val (v := .tuple #[.int .i64 ((hgt (l.length : Int)).1), .int .i64 ((hgt (l.length : Int)).2)]) (wt0 rfl) rfl rfl (x_move rfl rfl) ?_)
          refine l_of (s_val (v := .int .i64 ((hgt (l.length : Int)).1)) (wt0 rfl) rfl rfl (x_extract rfl rfl rfl) ?_)
          refine l_of (s_val (v := .int .i64 ((hgt (l.length : Int)).2)) (wt0 rfl) rfl rfl (x_extract rfl rfl rfl) ?_)
          refine l_of (s_val (v := .int .i64 ((hgt (l.length : Int)).1)) (wt0 rfl) rfl rfl (x_assign rfl rfl) ?_)
          refine l_of (s_val (v := .int .i64 ((hgt (l.length : Int)).2)) (wt0 rfl) rfl rfl (x_assign rfl rfl) ?_)
          refine g_nil ?_
          refine g_then ?_
          refine g_seq ?_
          refine g_seq ?_
          refine g_region ?_
          refine l_of (s_val (v := .int .i64 ((rootS l).2)) (wt0 rfl) rfl rfl (x_move rfl rfl) ?_)
          refine l_of (s_val (v := .bool (!decide (((rootS l).2 : Int) = 0))) (wt0 rfl) rfl rfl (x_bin rfl rfl rfl b_neq) ?_)
          refine g_nil ?_
          refine g_then ?_
          by_cases hb91 : ((rootS l).2 : Int) = 0
          · skip
            refine g_cond_f rfl (nf hb91) ?_
            refine g_skip ?_
            refine g_then ?_
            refine g_seq ?_
            refine g_seq ?_
            refine g_region ?_
            refine l_of (s_val (v := .int .i64 1) (wt0 rfl) rfl rfl (x_move rfl rfl) ?_)
            refine l_of (s_val (v := .bool (!decide ((1 : Int) = 0))) (wt0 rfl) rfl rfl (x_bin rfl rfl rfl b_neq) ?_)
            refine l_of (s_val (v := .bool (!decide ((1 : Int) = 0))) (wt0 rfl) rfl rfl (x_move rfl rfl) ?_)
            refine l_of (s_not (wn1 rfl rfl rfl rfl (by decide)) rfl rfl ?_)
            refine l_of (s_not (wn1 rfl rfl rfl rfl (by decide)) rfl rfl ?_)
            refine l_of (s_val (v := .bool true) (wt0 rfl) rfl rfl (x_pick_t rfl rfl (by decide) rfl) ?_)
            refine l_of (s_val (v := .bool true) (wt0 rfl) rfl rfl (x_move rfl rfl) ?_)
            refine l_of (s_not (wn1 rfl rfl rfl rfl rfl) rfl rfl ?_)
            refine l_of (s_not (wn1 rfl rfl rfl rfl rfl) rfl rfl ?_)
            refine l_of (s_not (wn1 rfl rfl rfl rfl rfl) rfl rfl ?_)
            refine l_of (s_val (v := .bool true) (wt0 rfl) rfl rfl (x_pick_t rfl rfl rfl rfl) ?_)
            refine g_nil ?_
            refine g_then ?_
            refine g_weak [(0, .slice p l.length c), (1, .int .i64 v), (2, .slice po no_ co), (9, .pointer none), (10, .int .i64 1), (11, .int .i64 ((hgt (l.length : Int)).1)), (74, .bool true)] ⟨rfl, rfl, rfl, rfl, rfl, rfl, rfl, trivial⟩ ?_
            refine g_cond_t rfl rfl ?_
            refine g_seq ?_
            refine g_region ?_
            refine l_of (s_val (v := .int .i64 1) (wt0 rfl) rfl rfl (x_move rfl rfl) ?_)
            refine l_of (s_val (v := .bool (decide ((1 : Int) = 0))) (wt0 rfl) rfl rfl (x_bin rfl rfl rfl b_eql) ?_)
            refine l_of (s_val (v := .bool (decide ((1 : Int) = 0))) (wt0 rfl) rfl rfl (x_move rfl rfl) ?_)
            refine l_of (s_not (wn1 rfl rfl rfl rfl (by decide)) rfl rfl ?_)
            refine l_of (s_val (v := .bool false) (wt0 rfl) rfl rfl (x_pick_f rfl rfl (by decide) rfl) ?_)
            refine l_of (s_val (v := .bool false) (wt0 rfl) rfl rfl (x_assign rfl rfl) ?_)
            refine g_nil ?_
            refine g_then ?_
            refine g_weak [(6, .bool false)] ⟨rfl, trivial⟩ ?_
            refine g_ret ?_
            refine g_then_ret ?_
            refine fin_ret [.tmp 6] [.bool false] rfl ⟨rfl, trivial⟩ ?_
            first | exact absurd rfl hb91 | (have hre := root_err l; omega)
          · skip
            refine g_cond_t rfl (nt hb91) ?_
            refine g_seq ?_
            refine g_region ?_
            refine l_of (s_call (wt0 rfl) (x_call' rfl rfl cl10) (awake_s _) ?_)
            rintro _ wq92 ⟨rfl, H93⟩
            replace H93 : S wq92 [Old w no] := H90.absorb (new := []) H93
            refine b_ret rfl rfl ?_
            refine l_of (s_val (v := .bool true) (wt0 rfl) rfl rfl (x_assign rfl rfl) ?_)
            refine g_nil ?_
            refine g_then ?_
            refine g_weak [(6, .bool true)] ⟨rfl, trivial⟩ ?_
            refine g_ret ?_
            refine g_then_ret ?_
            refine fin_ret [.tmp 6] [.bool true] rfl ⟨rfl, trivial⟩ ?_
            exact ⟨rfl, H93.mask [true]⟩
  · skip
    refine l_of (s_not (wn1 rfl rfl rfl rfl (neg_of hb3)) rfl rfl ?_)
    refine l_of (s_not (wn1 rfl rfl rfl rfl (neg_of hb3)) rfl rfl ?_)
    refine l_of (s_not (wn1 rfl rfl rfl rfl (neg_of hb3)) rfl rfl ?_)
    refine l_of (s_val (v := .bool true) (wt0 rfl) rfl rfl (x_pick_t rfl rfl (neg_of hb3) rfl) ?_)
    refine l_of (s_val (v := .bool true) (wt0 rfl) rfl rfl (x_move rfl rfl) ?_)
    refine l_of (s_not (wn1 rfl rfl rfl rfl rfl) rfl rfl ?_)
    refine l_of (s_not (wn1 rfl rfl rfl rfl rfl) rfl rfl ?_)
    refine l_of (s_not (wn1 rfl rfl rfl rfl rfl) rfl rfl ?_)
    refine l_of (s_val (v := .bool true) (wt0 rfl) rfl rfl (x_pick_t rfl rfl rfl rfl) ?_)
    refine g_nil ?_
    refine g_then ?_
    refine g_weak [(0, .slice p l.length c), (1, .int .i64 v), (2, .slice po no_ co), (41, .bool true)] ⟨rfl, rfl, rfl, rfl, trivial⟩ ?_
    refine g_cond_t rfl rfl ?_
    refine g_seq ?_
    refine g_region ?_
    refine l_of (s_call (wt0 rfl) (x_call' rfl rfl cl10) (awake_s _) ?_)
    rintro _ wq94 ⟨rfl, H95⟩
    replace H95 : S wq94 [Old w no] := H2.absorb (new := []) H95
    refine b_ret rfl rfl ?_
    refine l_of (s_val (v := .bool true) (wt0 rfl) rfl rfl (x_assign rfl rfl) ?_)
    refine g_nil ?_
    refine g_then ?_
    refine g_ret ?_
    refine g_then_ret ?_
    refine fin_ret [.tmp 6] [.bool true] rfl ⟨rfl, trivial⟩ ?_
    exact ⟨rfl, H95.mask [true]⟩
end Go.Proofs.Ytlajgickimgigaa
