import Derived.Test.YtlajgickimgigaaGreatVA
set_option linter.unusedSimpArgs false
set_option linter.unusedVariables false
namespace Go.Proofs.YtlajgickimgigaaGreat
open Go.RowKit

theorem cl56 : callable Tryz.prog 56 = true := by kernel_rfl
theorem cl18 : callable Tryz.prog 18 = true := by kernel_rfl
theorem cl57 : callable Tryz.prog 57 = true := by kernel_rfl
theorem fo50_0 : foO Tryz.prog 50 0 = some 0 := by kernel_rfl
theorem fo50_1 : foO Tryz.prog 50 1 = some 1 := by kernel_rfl
theorem fo50_2 : foO Tryz.prog 50 2 = some 2 := by kernel_rfl
/-- What Block meets, with these leaves. -/
def blockV (n h : Nat) (lf : Nat → ByteArray) (i : Int) (s : ByteArray) : Int :=
  if nodeOk h 0 i = true then (if (n : Int) ≤ i then 7 else if s.size = 0 ∨ 16 < s.size then 11 else if sumS s = lf i.toNat then 0 else 13) else 7
/-- What the reference's Get finds. -/
def getR (h : Nat) (M : PM) (v i : Int) : ByteArray × Int := if nodeOk h v i = true then (if (M (v.toNat, i.toNat)).isSome = true then ((M (v.toNat, i.toNat)).getD ⟨#[]⟩, 0) else (⟨#[]⟩, 8)) else (⟨#[]⟩, 7)
theorem two_le {h : Nat} (hh : h ≤ 12) : 2 ^ (h - (0 : Int).toNat) ≤ 4096 := by
  show 2 ^ (h - 0) ≤ 2 ^ 12
  exact Nat.pow_le_pow_right (by omega) (by omega)
theorem count_zero {n : Nat} (h : 1 ≤ n) : countN n 0 = n := by unfold countN; rw [Nat.pow_zero, Nat.div_one]; omega
theorem get_some {n I0 : Nat} {M : PM} {lf : Nat → ByteArray} (h1 : 1 ≤ n) (hM : ∀ j, j < n → M (0, j) = some (lf j)) : (getT n M 0 I0).isSome = true := by
  unfold getT
  split
  · rfl
  · rename_i h
    rw [count_zero h1] at h
    rw [hM _ (by omega)]; rfl
set_option maxRecDepth 20000 in
set_option maxHeartbeats 4000000 in
set_option maxRecDepth 20000 in
set_option maxHeartbeats 4000000 in
theorem node_r (tg mg n h : Nat) (M : PM) (v i : Int) (hh : h ≤ 60) (w : World) (HS : S w [Ob tg (.cells #[.int .i64 ((n : Int)), .int .i64 ((h : Int)), .map (some mg)] 50 (0, 0)), Mp placeV Value.string placeOk mg (M)]) : Calls Tryz.prog 57 #[.pointer (some ⟨tg, 0, none⟩), .int .i64 v, .int .i64 i] w fun e w' => e = .returned (.bool (nodeOk h v i)) ∧ S w' ([Ob tg (.cells #[.int .i64 ((n : Int)), .int .i64 ((h : Int)), .map (some mg)] 50 (0, 0)), Mp placeV Value.string placeOk mg (M)] ++ [Old w (fps [Ob tg (.cells #[.int .i64 ((n : Int)), .int .i64 ((h : Int)), .map (some mg)] 50 (0, 0)), Mp placeV Value.string placeOk mg (M)])]) := by
  have H00 := HS.beginI
  have H0 : S w ([Ob tg (.cells #[.int .i64 ((n : Int)), .int .i64 ((h : Int)), .map (some mg)] 50 (0, 0)), Mp placeV Value.string placeOk mg (M), Old w (fps [Ob tg (.cells #[.int .i64 ((n : Int)), .int .i64 ((h : Int)), .map (some mg)] 50 (0, 0)), Mp placeV Value.string placeOk mg (M)])]) := H00
  refine enter 32 Tryz.func57 rfl rfl rfl ?_
  refine g_weak [(0, .pointer (some ⟨tg, 0, none⟩)), (1, .int .i64 v), (2, .int .i64 i)] ⟨rfl, rfl, rfl, trivial⟩ ?_
  refine g_seq ?_
  refine g_region ?_
  refine l_of (s_val (v := .bool false) (wt0 rfl) rfl rfl (x_assign rfl rfl) ?_)
  refine g_nil ?_
  refine g_then ?_
  refine g_seq ?_
  refine g_region ?_
  refine l_of (s_val (v := .int .i64 v) (wt0 rfl) rfl rfl (x_move rfl rfl) ?_)
  refine l_of (s_val (v := .bool (decide ((0 : Int) ≤ v))) (wt0 rfl) rfl rfl (x_bin rfl rfl rfl b_geq) ?_)
  refine l_of (s_val (v := .bool (decide ((0 : Int) ≤ v))) (wt0 rfl) rfl rfl (x_move rfl rfl) ?_)
  by_cases hb1 : (0 : Int) ≤ v
  · skip
    refine l_of (s_val (v := .int .i64 v) (wt1 rfl rfl rfl rfl (decide_eq_true hb1)) rfl rfl (x_move rfl rfl) ?_)
    refine l_of (s_val (v := .pointer (some ⟨tg, 0, none⟩)) (wt1 rfl rfl rfl rfl (decide_eq_true hb1)) rfl rfl (x_move rfl rfl) ?_)
    refine l_of (s_val (v := .pointer (some ⟨tg, 0, none⟩)) (wt1 rfl rfl rfl rfl (decide_eq_true hb1)) rfl rfl (x_nilCheck rfl rfl) ?_)
    refine l_of (s_val (v := .pointer (some ⟨tg, 1, none⟩)) (wt1 rfl rfl rfl rfl (decide_eq_true hb1)) rfl rfl (x_fieldAddr rfl rfl fo50_1 rfl) ?_)
    refine l_of (s_val (v := .int .i64 ((h : Int))) (wt1 rfl rfl rfl rfl (decide_eq_true hb1)) rfl rfl (x_load1 H0 0 rfl rfl Tryz.underlying3 rfl rfl rfl) ?_)
    refine l_of (s_val (v := .bool (decide ((v : Int) ≤ (h : Int)))) (wt1 rfl rfl rfl rfl (decide_eq_true hb1)) rfl rfl (x_bin rfl rfl rfl b_leq) ?_)
    refine l_of (s_val (v := .bool (decide ((v : Int) ≤ (h : Int)))) (wt0 rfl) rfl rfl (x_pick_t rfl rfl (decide_eq_true hb1) rfl) ?_)
    refine l_of (s_val (v := .bool (decide ((v : Int) ≤ (h : Int)))) (wt0 rfl) rfl rfl (x_move rfl rfl) ?_)
    by_cases hb2 : (v : Int) ≤ (h : Int)
    · skip
      refine l_of (s_val (v := .int .i64 i) (wt1 rfl rfl rfl rfl (decide_eq_true hb2)) rfl rfl (x_move rfl rfl) ?_)
      refine l_of (s_val (v := .bool (decide ((0 : Int) ≤ i))) (wt1 rfl rfl rfl rfl (decide_eq_true hb2)) rfl rfl (x_bin rfl rfl rfl b_geq) ?_)
      refine l_of (s_val (v := .bool (decide ((0 : Int) ≤ i))) (wt0 rfl) rfl rfl (x_pick_t rfl rfl (decide_eq_true hb2) rfl) ?_)
      refine l_of (s_val (v := .bool (decide ((0 : Int) ≤ i))) (wt0 rfl) rfl rfl (x_move rfl rfl) ?_)
      by_cases hb3 : (0 : Int) ≤ i
      · skip
        refine l_of (s_val (v := .int .i64 i) (wt1 rfl rfl rfl rfl (decide_eq_true hb3)) rfl rfl (x_move rfl rfl) ?_)
        refine l_of (s_val (v := .pointer (some ⟨tg, 0, none⟩)) (wt1 rfl rfl rfl rfl (decide_eq_true hb3)) rfl rfl (x_move rfl rfl) ?_)
        refine l_of (s_val (v := .pointer (some ⟨tg, 0, none⟩)) (wt1 rfl rfl rfl rfl (decide_eq_true hb3)) rfl rfl (x_nilCheck rfl rfl) ?_)
        refine l_of (s_val (v := .pointer (some ⟨tg, 1, none⟩)) (wt1 rfl rfl rfl rfl (decide_eq_true hb3)) rfl rfl (x_fieldAddr rfl rfl fo50_1 rfl) ?_)
        refine l_of (s_val (v := .int .i64 ((h : Int))) (wt1 rfl rfl rfl rfl (decide_eq_true hb3)) rfl rfl (x_load1 H0 0 rfl rfl Tryz.underlying3 rfl rfl rfl) ?_)
        refine l_of (s_val (v := .int .i64 v) (wt1 rfl rfl rfl rfl (decide_eq_true hb3)) rfl rfl (x_move rfl rfl) ?_)
        refine l_of (s_val (v := .int .i64 ((h : Int) - v)) (wt1 rfl rfl rfl rfl (decide_eq_true hb3)) rfl rfl (x_bin rfl rfl rfl (b_sub (w64 (by omega)))) ?_)
        refine l_of (s_call (wt1 rfl rfl rfl rfl (decide_eq_true hb3)) (x_call' rfl rfl cl40) (two_sub h v (by omega) (by omega) (by omega) _) ?_)
        rintro _ wq4 ⟨rfl, H5⟩
        replace H5 : S wq4 [Ob tg (.cells #[.int .i64 ((n : Int)), .int .i64 ((h : Int)), .map (some mg)] 50 (0, 0)), Mp placeV Value.string placeOk mg (M), Old w (fps [Ob tg (.cells #[.int .i64 ((n : Int)), .int .i64 ((h : Int)), .map (some mg)] 50 (0, 0)), Mp placeV Value.string placeOk mg (M)])] := H0.absorb (new := []) H5
        refine b_ret rfl rfl ?_
        refine l_of (s_val (v := .bool (decide ((i : Int) < ((2 ^ (h - v.toNat) : Nat) : Int)))) (wt1 rfl rfl rfl rfl (decide_eq_true hb3)) rfl rfl (x_bin rfl rfl rfl b_lss) ?_)
        refine l_of (s_val (v := .bool (decide ((i : Int) < ((2 ^ (h - v.toNat) : Nat) : Int)))) (wt0 rfl) rfl rfl (x_pick_t rfl rfl (decide_eq_true hb3) rfl) ?_)
        refine l_of (s_val (v := .bool (decide ((i : Int) < ((2 ^ (h - v.toNat) : Nat) : Int)))) (wt0 rfl) rfl rfl (x_assign rfl rfl) ?_)
        refine g_nil ?_
        refine g_then ?_
        refine g_weak [(6, .bool (decide ((i : Int) < ((2 ^ (h - v.toNat) : Nat) : Int))))] ⟨rfl, trivial⟩ ?_
        refine g_ret ?_
        refine fin_ret [.tmp 6] [.bool (decide ((i : Int) < ((2 ^ (h - v.toNat) : Nat) : Int)))] rfl ⟨rfl, trivial⟩ ?_
        exact ⟨by rw [show nodeOk h v i = decide ((i : Int) < ((2 ^ (h - v.toNat) : Nat) : Int)) from by unfold nodeOk; rw [decide_eq_true (show 0 ≤ v by omega), decide_eq_true (show v ≤ (h : Int) by omega), decide_eq_true (show 0 ≤ i by omega)]; rfl]; rfl, H5.takes [0, 1, 2] (by decide)⟩
      · skip
        refine l_of (s_not (wn1 rfl rfl rfl rfl (decide_eq_false hb3)) rfl rfl ?_)
        refine l_of (s_not (wn1 rfl rfl rfl rfl (decide_eq_false hb3)) rfl rfl ?_)
        refine l_of (s_not (wn1 rfl rfl rfl rfl (decide_eq_false hb3)) rfl rfl ?_)
        refine l_of (s_not (wn1 rfl rfl rfl rfl (decide_eq_false hb3)) rfl rfl ?_)
        refine l_of (s_not (wn1 rfl rfl rfl rfl (decide_eq_false hb3)) rfl rfl ?_)
        refine l_of (s_not (wn1 rfl rfl rfl rfl (decide_eq_false hb3)) rfl rfl ?_)
        refine l_of (s_not (wn1 rfl rfl rfl rfl (decide_eq_false hb3)) rfl rfl ?_)
        refine l_of (s_not (wn1 rfl rfl rfl rfl (decide_eq_false hb3)) rfl rfl ?_)
        refine l_of (s_not (wn1 rfl rfl rfl rfl (decide_eq_false hb3)) rfl rfl ?_)
        refine l_of (s_val (v := .bool false) (wt0 rfl) rfl rfl (x_pick_f rfl rfl (decide_eq_false hb3) rfl) ?_)
        refine l_of (s_val (v := .bool false) (wt0 rfl) rfl rfl (x_assign rfl rfl) ?_)
        refine g_nil ?_
        refine g_then ?_
        refine g_weak [(6, .bool false)] ⟨rfl, trivial⟩ ?_
        refine g_ret ?_
        refine fin_ret [.tmp 6] [.bool false] rfl ⟨rfl, trivial⟩ ?_
        exact ⟨by rw [nodeOk_f (by omega)]; rfl, H0.takes [0, 1, 2] (by decide)⟩
    · skip
      refine l_of (s_not (wn1 rfl rfl rfl rfl (decide_eq_false hb2)) rfl rfl ?_)
      refine l_of (s_not (wn1 rfl rfl rfl rfl (decide_eq_false hb2)) rfl rfl ?_)
      refine l_of (s_val (v := .bool false) (wt0 rfl) rfl rfl (x_pick_f rfl rfl (decide_eq_false hb2) rfl) ?_)
      refine l_of (s_val (v := .bool false) (wt0 rfl) rfl rfl (x_move rfl rfl) ?_)
      refine l_of (s_not (wn1 rfl rfl rfl rfl rfl) rfl rfl ?_)
      refine l_of (s_not (wn1 rfl rfl rfl rfl rfl) rfl rfl ?_)
      refine l_of (s_not (wn1 rfl rfl rfl rfl rfl) rfl rfl ?_)
      refine l_of (s_not (wn1 rfl rfl rfl rfl rfl) rfl rfl ?_)
      refine l_of (s_not (wn1 rfl rfl rfl rfl rfl) rfl rfl ?_)
      refine l_of (s_not (wn1 rfl rfl rfl rfl rfl) rfl rfl ?_)
      refine l_of (s_not (wn1 rfl rfl rfl rfl rfl) rfl rfl ?_)
      refine l_of (s_not (wn1 rfl rfl rfl rfl rfl) rfl rfl ?_)
      refine l_of (s_not (wn1 rfl rfl rfl rfl rfl) rfl rfl ?_)
      refine l_of (s_val (v := .bool false) (wt0 rfl) rfl rfl (x_pick_f rfl rfl rfl rfl) ?_)
      refine l_of (s_val (v := .bool false) (wt0 rfl) rfl rfl (x_assign rfl rfl) ?_)
      refine g_nil ?_
      refine g_then ?_
      refine g_weak [(6, .bool false)] ⟨rfl, trivial⟩ ?_
      refine g_ret ?_
      refine fin_ret [.tmp 6] [.bool false] rfl ⟨rfl, trivial⟩ ?_
      exact ⟨by rw [nodeOk_f (by omega)]; rfl, H0.takes [0, 1, 2] (by decide)⟩
  · skip
    refine l_of (s_not (wn1 rfl rfl rfl rfl (decide_eq_false hb1)) rfl rfl ?_)
    refine l_of (s_not (wn1 rfl rfl rfl rfl (decide_eq_false hb1)) rfl rfl ?_)
    refine l_of (s_not (wn1 rfl rfl rfl rfl (decide_eq_false hb1)) rfl rfl ?_)
    refine l_of (s_not (wn1 rfl rfl rfl rfl (decide_eq_false hb1)) rfl rfl ?_)
    refine l_of (s_not (wn1 rfl rfl rfl rfl (decide_eq_false hb1)) rfl rfl ?_)
    refine l_of (s_not (wn1 rfl rfl rfl rfl (decide_eq_false hb1)) rfl rfl ?_)
    refine l_of (s_val (v := .bool false) (wt0 rfl) rfl rfl (x_pick_f rfl rfl (decide_eq_false hb1) rfl) ?_)
    refine l_of (s_val (v := .bool false) (wt0 rfl) rfl rfl (x_move rfl rfl) ?_)
    refine l_of (s_not (wn1 rfl rfl rfl rfl rfl) rfl rfl ?_)
    refine l_of (s_not (wn1 rfl rfl rfl rfl rfl) rfl rfl ?_)
    refine l_of (s_val (v := .bool false) (wt0 rfl) rfl rfl (x_pick_f rfl rfl rfl rfl) ?_)
    refine l_of (s_val (v := .bool false) (wt0 rfl) rfl rfl (x_move rfl rfl) ?_)
    refine l_of (s_not (wn1 rfl rfl rfl rfl rfl) rfl rfl ?_)
    refine l_of (s_not (wn1 rfl rfl rfl rfl rfl) rfl rfl ?_)
    refine l_of (s_not (wn1 rfl rfl rfl rfl rfl) rfl rfl ?_)
    refine l_of (s_not (wn1 rfl rfl rfl rfl rfl) rfl rfl ?_)
    refine l_of (s_not (wn1 rfl rfl rfl rfl rfl) rfl rfl ?_)
    refine l_of (s_not (wn1 rfl rfl rfl rfl rfl) rfl rfl ?_)
    refine l_of (s_not (wn1 rfl rfl rfl rfl rfl) rfl rfl ?_)
    refine l_of (s_not (wn1 rfl rfl rfl rfl rfl) rfl rfl ?_)
    refine l_of (s_not (wn1 rfl rfl rfl rfl rfl) rfl rfl ?_)
    refine l_of (s_val (v := .bool false) (wt0 rfl) rfl rfl (x_pick_f rfl rfl rfl rfl) ?_)
    refine l_of (s_val (v := .bool false) (wt0 rfl) rfl rfl (x_assign rfl rfl) ?_)
    refine g_nil ?_
    refine g_then ?_
    refine g_weak [(6, .bool false)] ⟨rfl, trivial⟩ ?_
    refine g_ret ?_
    refine fin_ret [.tmp 6] [.bool false] rfl ⟨rfl, trivial⟩ ?_
    exact ⟨by rw [nodeOk_f (by omega)]; rfl, H0.takes [0, 1, 2] (by decide)⟩
set_option maxRecDepth 20000 in
set_option maxHeartbeats 4000000 in
set_option maxRecDepth 20000 in
set_option maxHeartbeats 4000000 in
theorem get_r (tg mg n h : Nat) (M : PM) (v i : Int) (hh : h ≤ 12) (w : World) (HS : S w [Ob tg (.cells #[.int .i64 ((n : Int)), .int .i64 ((h : Int)), .map (some mg)] 50 (0, 0)), Mp placeV Value.string placeOk mg (M)]) : Calls Tryz.prog 18 #[.pointer (some ⟨tg, 0, none⟩), .int .i64 v, .int .i64 i] w fun e w' => e = .returned (.tuple #[.string (getR h M v i).1, .int .i64 (getR h M v i).2]) ∧ S w' ([Ob tg (.cells #[.int .i64 ((n : Int)), .int .i64 ((h : Int)), .map (some mg)] 50 (0, 0)), Mp placeV Value.string placeOk mg (M)] ++ [Old w (fps [Ob tg (.cells #[.int .i64 ((n : Int)), .int .i64 ((h : Int)), .map (some mg)] 50 (0, 0)), Mp placeV Value.string placeOk mg (M)])]) := by
  have H00 := HS.beginI
  have H0 : S w ([Ob tg (.cells #[.int .i64 ((n : Int)), .int .i64 ((h : Int)), .map (some mg)] 50 (0, 0)), Mp placeV Value.string placeOk mg (M), Old w (fps [Ob tg (.cells #[.int .i64 ((n : Int)), .int .i64 ((h : Int)), .map (some mg)] 50 (0, 0)), Mp placeV Value.string placeOk mg (M)])]) := H00
  refine enter 29 Tryz.func18 rfl rfl rfl ?_
  refine g_weak [(0, .pointer (some ⟨tg, 0, none⟩)), (1, .int .i64 v), (2, .int .i64 i)] ⟨rfl, rfl, rfl, trivial⟩ ?_
  refine g_seq ?_
  refine g_region ?_
  refine l_of (s_val (v := .string (⟨#[]⟩)) (wt0 rfl) rfl rfl (x_assign rfl rfl) ?_)
  refine l_of (s_val (v := .int .i64 0) (wt0 rfl) rfl rfl (x_assign rfl rfl) ?_)
  refine g_nil ?_
  refine g_then ?_
  refine g_seq ?_
  refine g_seq ?_
  refine g_region ?_
  refine l_of (s_val (v := .pointer (some ⟨tg, 0, none⟩)) (wt0 rfl) rfl rfl (x_move rfl rfl) ?_)
  refine l_of (s_val (v := .int .i64 v) (wt0 rfl) rfl rfl (x_move rfl rfl) ?_)
  refine l_of (s_val (v := .int .i64 i) (wt0 rfl) rfl rfl (x_move rfl rfl) ?_)
  refine l_of (s_call (wt0 rfl) (x_call' rfl rfl cl57) (node_r tg mg n h M v i (by omega) _ (H0.takes [0, 1] (by decide))) ?_)
  rintro _ wq1 ⟨rfl, H2⟩
  replace H2 : S wq1 [Ob tg (.cells #[.int .i64 ((n : Int)), .int .i64 ((h : Int)), .map (some mg)] 50 (0, 0)), Mp placeV Value.string placeOk mg (M), Old w (fps [Ob tg (.cells #[.int .i64 ((n : Int)), .int .i64 ((h : Int)), .map (some mg)] 50 (0, 0)), Mp placeV Value.string placeOk mg (M)])] := H0.absorbI (new := [Ob tg (.cells #[.int .i64 ((n : Int)), .int .i64 ((h : Int)), .map (some mg)] 50 (0, 0)), Mp placeV Value.string placeOk mg (M)]) [0, 1] H2
  refine b_ret rfl rfl ?_
  refine l_of (s_val (v := .bool (!((nodeOk h v i)))) (wt0 rfl) rfl rfl (x_not (b := (nodeOk h v i)) rfl rfl) ?_)
  refine g_nil ?_
  refine g_then ?_
  rcases Bool.eq_false_or_eq_true ((nodeOk h v i)) with hb3 | hb3
  · skip
    obtain ⟨o1, o2, o3, o4⟩ := nodeOk_s hb3
    obtain ⟨V0, rfl⟩ : ∃ V0 : Nat, v = (V0 : Int) := ⟨v.toNat, by omega⟩
    obtain ⟨I0, rfl⟩ : ∃ I0 : Nat, i = (I0 : Int) := ⟨i.toNat, by omega⟩
    simp only [Int.toNat_natCast] at o4
    have h4096 : 2 ^ (h - V0) ≤ 4096 := Nat.pow_le_pow_right (by omega) (show h - V0 ≤ 12 by omega)
    refine g_cond_f rfl (neg_of hb3) ?_
    refine g_skip ?_
    refine g_then ?_
    refine g_seq ?_
    refine g_region ?_
    refine l_of (s_val (v := .pointer (some ⟨tg, 0, none⟩)) (wt0 rfl) rfl rfl (x_move rfl rfl) ?_)
    refine l_of (s_val (v := .pointer (some ⟨tg, 0, none⟩)) (wt0 rfl) rfl rfl (x_nilCheck rfl rfl) ?_)
    refine l_of (s_val (v := .pointer (some ⟨tg, 2, none⟩)) (wt0 rfl) rfl rfl (x_fieldAddr rfl rfl fo50_2 rfl) ?_)
    refine l_of (s_val (v := .map (some mg)) (wt0 rfl) rfl rfl (x_load1 H2 0 rfl rfl Tryz.underlying48 rfl rfl rfl) ?_)
    refine l_of (s_val (v := .int .i64 ((V0 : Int))) (wt0 rfl) rfl rfl (x_move rfl rfl) ?_)
    refine l_of (s_val (v := .int .i64 ((I0 : Int))) (wt0 rfl) rfl rfl (x_move rfl rfl) ?_)
    refine l_of (s_val (v := .agg #[.int .i64 ((V0 : Int)), .int .i64 ((I0 : Int))]) (wt0 rfl) rfl rfl (x_build (vs := [.int .i64 ((V0 : Int)), .int .i64 ((I0 : Int))]) rfl rfl (cells := #[.int .i64 ((V0 : Int)), .int .i64 ((I0 : Int))]) (by kernel_rfl)) ?_)
    refine l_of (s_val (v := .tuple #[.string (((M (V0, I0)).getD ⟨#[]⟩)), .bool ((M (V0, I0)).isSome)]) (wt0 rfl) rfl rfl (ex_cast (x_lookup (x := (V0, I0)) placeR H2 1 rfl rfl rfl rfl ⟨by (show _ ≤ 1099511627776); omega, by (show _ ≤ 1099511627776); omega⟩ ze9) (by rw [look_S])) ?_)
    refine l_of (s_val (v := .tuple #[.string (((M (V0, I0)).getD ⟨#[]⟩)), .bool ((M (V0, I0)).isSome)]) (wt0 rfl) rfl rfl (x_move rfl rfl) ?_)
    refine l_of (s_val (v := .string (((M (V0, I0)).getD ⟨#[]⟩))) (wt0 rfl) rfl rfl (x_extract rfl rfl rfl) ?_)
    refine l_of (s_val (v := .bool ((M (V0, I0)).isSome)) (wt0 rfl) rfl rfl (x_extract rfl rfl rfl) ?_)
    refine l_of (s_val (v := .string (((M (V0, I0)).getD ⟨#[]⟩))) (wt0 rfl) rfl rfl (x_assign rfl rfl) ?_)
    refine l_of (s_val (v := .bool ((M (V0, I0)).isSome)) (wt0 rfl) rfl rfl (x_assign rfl rfl) ?_)
    refine g_nil ?_
    refine g_then ?_
    refine g_weak [(8, .string (((M (V0, I0)).getD ⟨#[]⟩))), (9, .bool ((M (V0, I0)).isSome))] ⟨rfl, rfl, trivial⟩ ?_
    refine g_seq ?_
    refine g_seq ?_
    refine g_region ?_
    refine l_of (s_val (v := .bool ((M (V0, I0)).isSome)) (wt0 rfl) rfl rfl (x_move rfl rfl) ?_)
    refine l_of (s_val (v := .bool (!((M (V0, I0)).isSome))) (wt0 rfl) rfl rfl (x_not (b := (M (V0, I0)).isSome) rfl rfl) ?_)
    refine g_nil ?_
    refine g_then ?_
    rcases Bool.eq_false_or_eq_true ((M (V0, I0)).isSome) with hb4 | hb4
    · skip
      refine g_cond_f rfl (neg_of hb4) ?_
      refine g_skip ?_
      refine g_then ?_
      refine g_seq ?_
      refine g_region ?_
      refine l_of (s_val (v := .string (((M (V0, I0)).getD ⟨#[]⟩))) (wt0 rfl) rfl rfl (x_move rfl rfl) ?_)
      refine l_of (s_val (v := .string (((M (V0, I0)).getD ⟨#[]⟩))) (wt0 rfl) rfl rfl (x_assign rfl rfl) ?_)
      refine l_of (s_val (v := .int .i64 0) (wt0 rfl) rfl rfl (x_assign rfl rfl) ?_)
      refine g_nil ?_
      refine g_then ?_
      refine g_ret ?_
      refine fin_ret [.tmp 6, .tmp 7] [.string (((M (V0, I0)).getD ⟨#[]⟩)), .int .i64 0] rfl ⟨rfl, rfl, trivial⟩ ?_
      have hsm := hb4
      exact ⟨by unfold getR; simp only [Int.toNat_natCast]; rw [if_pos hb3, if_pos hsm]; rfl, H2.takes [0, 1, 2] (by decide)⟩
    · skip
      refine g_cond_t rfl (neg_of hb4) ?_
      refine g_seq ?_
      refine g_region ?_
      refine l_of (s_val (v := .string (⟨#[]⟩)) (wt0 rfl) rfl rfl (x_assign rfl rfl) ?_)
      refine l_of (s_val (v := .int .i64 8) (wt0 rfl) rfl rfl (x_assign rfl rfl) ?_)
      refine g_nil ?_
      refine g_then ?_
      refine g_ret ?_
      refine g_then_ret ?_
      refine fin_ret [.tmp 6, .tmp 7] [.string (⟨#[]⟩), .int .i64 8] rfl ⟨rfl, rfl, trivial⟩ ?_
      have hsm := hb4
      exact ⟨by unfold getR; simp only [Int.toNat_natCast]; rw [if_pos hb3, if_neg (by rw [hsm]; exact Bool.false_ne_true)]; rfl, H2.takes [0, 1, 2] (by decide)⟩
  · skip
    refine g_cond_t rfl (neg_of hb3) ?_
    refine g_seq ?_
    refine g_region ?_
    refine l_of (s_val (v := .string (⟨#[]⟩)) (wt0 rfl) rfl rfl (x_assign rfl rfl) ?_)
    refine l_of (s_val (v := .int .i64 7) (wt0 rfl) rfl rfl (x_assign rfl rfl) ?_)
    refine g_nil ?_
    refine g_then ?_
    refine g_ret ?_
    refine g_then_ret ?_
    refine fin_ret [.tmp 6, .tmp 7] [.string (⟨#[]⟩), .int .i64 7] rfl ⟨rfl, rfl, trivial⟩ ?_
    exact ⟨by unfold getR; rw [if_neg (by rw [hb3]; exact Bool.false_ne_true)]; rfl, H2.takes [0, 1, 2] (by decide)⟩
theorem getR_ok {h : Nat} {M : PM} {lf : Nat → ByteArray} {i : Int} (hM : ∀ j, j < 2 ^ h → M (0, j) = some (lf j)) (hn : nodeOk h 0 i = true) : getR h M 0 i = (lf i.toNat, 0) := by
  obtain ⟨o1, o2, o3, o4⟩ := nodeOk_s hn
  have e : M ((0 : Int).toNat, i.toNat) = some (lf i.toNat) := hM _ (by simp only [Int.toNat_zero, Nat.sub_zero] at o4; omega)
  unfold getR
  rw [if_pos hn, e]; rfl
theorem getR_no {h : Nat} {M : PM} {i : Int} (hn : ¬ nodeOk h 0 i = true) : getR h M 0 i = (⟨#[]⟩, 7) := by unfold getR; rw [if_neg hn]
end Go.Proofs.YtlajgickimgigaaGreat
