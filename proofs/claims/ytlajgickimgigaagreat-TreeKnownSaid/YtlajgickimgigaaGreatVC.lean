import Derived.Test.YtlajgickimgigaaGreatVB
set_option linter.unusedSimpArgs false
set_option linter.unusedVariables false
namespace Go.Proofs.YtlajgickimgigaaGreat
open Go.RowKit

/-- Zeros of a level are laid. -/
def zM (M : PM) (a b : Nat) (z : ByteArray) : Nat → PM
  | 0 => M
  | j + 1 => upM (zM M a b z j) (a, b + j) z
def nzM (n h : Nat) : Nat → PM
  | 0 => fun _ => none
  | a + 1 => zM (nzM n h a) a (countN n a) (zeroS a) (2 ^ (h - a) - countN n a)
/-- What the reference's New knows. -/
def newR (n h : Nat) (root : ByteArray) : PM := upM (nzM n h (h + 1)) (h, 0) root
theorem zM_get (M : PM) (a b : Nat) (z : ByteArray) : ∀ (j x y : Nat), zM M a b z j (x, y) = if x = a ∧ b ≤ y ∧ y < b + j then some z else M (x, y)
  | 0, x, y => by rw [if_neg (by omega)]; rfl
  | j + 1, x, y => by
    show upM (zM M a b z j) (a, b + j) z (x, y) = _
    unfold upM
    by_cases h : (x, y) = (a, b + j)
    · rw [if_pos h]
      simp only [Prod.mk.injEq] at h
      rw [if_pos ⟨h.1, by omega, by omega⟩]
    · rw [if_neg h, zM_get M a b z j x y]
      simp only [Prod.mk.injEq] at h
      by_cases h2 : x = a ∧ b ≤ y ∧ y < b + j
      · rw [if_pos h2, if_pos ⟨h2.1, h2.2.1, by omega⟩]
      · rw [if_neg h2, if_neg (fun h3 => by
          by_cases h4 : y = b + j
          · exact h ⟨h3.1, h4⟩
          · exact h2 ⟨h3.1, h3.2.1, by omega⟩)]
theorem nzM_get (n h : Nat) : ∀ (k x y : Nat), nzM n h k (x, y) = if x < k ∧ countN n x ≤ y ∧ y < 2 ^ (h - x) then some (zeroS x) else none
  | 0, x, y => by rw [if_neg (by omega)]; rfl
  | k + 1, x, y => by
    show zM (nzM n h k) k (countN n k) (zeroS k) (2 ^ (h - k) - countN n k) (x, y) = _
    rw [zM_get, nzM_get n h k x y]
    by_cases e : x = k
    · subst e
      by_cases h1 : countN n x ≤ y ∧ y < 2 ^ (h - x)
      · rw [if_pos ⟨rfl, h1.1, by omega⟩, if_pos ⟨by omega, h1⟩]
      · rw [if_neg (fun h2 => h1 ⟨h2.2.1, by omega⟩), if_neg (fun h2 => by omega), if_neg (fun h2 => h1 h2.2)]
    · rw [if_neg (fun h2 => e h2.1)]
      by_cases h1 : x < k ∧ countN n x ≤ y ∧ y < 2 ^ (h - x)
      · rw [if_pos h1, if_pos ⟨by omega, h1.2⟩]
      · rw [if_neg h1, if_neg (fun h2 => h1 ⟨by omega, h2.2⟩)]
theorem newR_get (n h : Nat) (root : ByteArray) (x y : Nat) : newR n h root (x, y) = if x = h ∧ y = 0 then some root else if x ≤ h ∧ countN n x ≤ y ∧ y < 2 ^ (h - x) then some (zeroS x) else none := by
  unfold newR upM
  by_cases e : x = h ∧ y = 0
  · rw [if_pos (by rw [e.1, e.2]), if_pos e]
  · rw [if_neg (fun h1 => e (by simpa using h1)), if_neg e, nzM_get]
    by_cases h1 : x ≤ h ∧ countN n x ≤ y ∧ y < 2 ^ (h - x)
    · rw [if_pos ⟨by omega, h1.2⟩, if_pos h1]
    · rw [if_neg (fun h2 => h1 ⟨by omega, h2.2⟩), if_neg h1]
/-- A row is laid. -/
def rowZ (M : PM) (a : Nat) (row : List ByteArray) : Nat → PM
  | 0 => M
  | j + 1 => upM (rowZ M a row j) (a, j) (row.getD j ⟨#[]⟩)
theorem rowZ_get (M : PM) (a : Nat) (row : List ByteArray) : ∀ (j x y : Nat), rowZ M a row j (x, y) = if x = a ∧ y < j then some (row.getD y ⟨#[]⟩) else M (x, y)
  | 0, x, y => by rw [if_neg (by omega)]; rfl
  | j + 1, x, y => by
    show upM (rowZ M a row j) (a, j) (row.getD j ⟨#[]⟩) (x, y) = _
    unfold upM
    by_cases h : (x, y) = (a, j)
    · rw [if_pos h]
      simp only [Prod.mk.injEq] at h
      rw [if_pos ⟨h.1, by omega⟩, h.2]
    · rw [if_neg h, rowZ_get M a row j x y]
      simp only [Prod.mk.injEq] at h
      by_cases h2 : x = a ∧ y < j
      · rw [if_pos h2, if_pos ⟨h2.1, by omega⟩]
      · rw [if_neg h2, if_neg (fun h3 => by
          by_cases h4 : y = j
          · exact h ⟨h3.1, h4⟩
          · exact h2 ⟨h3.1, by omega⟩)]
def ofR (l : List ByteArray) (M0 : PM) : Nat → PM
  | 0 => M0
  | a + 1 => rowZ (ofR l M0 a) a (upN a (rowT l.length 0 l)) (upN a (rowT l.length 0 l)).length
theorem ofR_get {l : List ByteArray} {M0 : PM} (hn : l.length ≤ 1099511627776) : ∀ (k x y : Nat), k ≤ tallN l.length + 1 → x < k → y < 2 ^ (tallN l.length - x) → ofR l M0 k (x, y) = some (nodeT l x y)
  | k + 1, x, y, hk, hx, hy => by
    show rowZ (ofR l M0 k) k (upN k (rowT l.length 0 l)) (upN k (rowT l.length 0 l)).length (x, y) = _
    rw [rowZ_get, full_row hn (by omega)]
    by_cases e : x = k
    · subst e; rw [if_pos ⟨rfl, hy⟩]; rfl
    · rw [if_neg (fun h => e h.1)]; exact ofR_get hn k x y (by omega) (by omega) hy
set_option maxRecDepth 20000 in
set_option maxHeartbeats 4000000 in
set_option maxRecDepth 20000 in
set_option maxHeartbeats 4000000 in
theorem new_r (root : ByteArray) (n : Nat) (hs : root.size = 32) (h1 : 1 ≤ n) (hn : n ≤ 4096) (w : World) : Calls Tryz.prog 10 #[.string root, .int .i64 ((n : Int))] w fun e w' => ∃ tg mg, e = .returned (.tuple #[.pointer (some ⟨tg, 0, none⟩), .int .i64 0]) ∧ S w' ([Ob tg (.cells #[.int .i64 (n : Int), .int .i64 (((tallN n) : Nat) : Int), .map (some mg)] 50 (0, 0)), Mp placeV Value.string placeOk mg (newR n (tallN n) root)] ++ [Old w no]) := by
  have H0 := S.old w
  have ht12 := tall_le12 hn
  refine enter 75 Tryz.func10 rfl rfl rfl ?_
  refine g_weak [(0, .string root), (1, .int .i64 ((n : Int)))] ⟨rfl, rfl, trivial⟩ ?_
  refine g_seq ?_
  refine g_region ?_
  refine l_of (s_val (v := .pointer none) (wt0 rfl) rfl rfl (x_assign rfl rfl) ?_)
  refine l_of (s_val (v := .int .i64 0) (wt0 rfl) rfl rfl (x_assign rfl rfl) ?_)
  refine g_nil ?_
  refine g_then ?_
  refine g_seq ?_
  refine g_block ?_
  refine g_seq ?_
  refine g_region ?_
  refine l_of (s_val (v := .string root) (wt0 rfl) rfl rfl (x_move rfl rfl) ?_)
  refine l_of (s_val (v := .int .i64 ((root.size : Int))) (wt0 rfl) rfl rfl (x_lens rfl rfl Tryz.underlying9) ?_)
  refine l_of (s_val (v := .bool (!decide (((root.size : Int) : Int) = 32))) (wt0 rfl) rfl rfl (x_bin rfl rfl rfl b_neq) ?_)
  refine l_of (s_val (v := .bool (!decide (((root.size : Int) : Int) = 32))) (wt0 rfl) rfl rfl (x_assign rfl rfl) ?_)
  refine g_nil ?_
  refine g_then ?_
  by_cases hb1 : ((root.size : Int) : Int) = 32
  · skip
    refine g_cond_f rfl (nf hb1) ?_
    refine g_seq ?_
    refine g_region ?_
    refine l_of (s_val (v := .int .i64 ((n : Int))) (wt0 rfl) rfl rfl (x_move rfl rfl) ?_)
    refine l_of (s_val (v := .bool (decide (((n : Int) : Int) < 1))) (wt0 rfl) rfl rfl (x_bin rfl rfl rfl b_lss) ?_)
    refine l_of (s_val (v := .bool (decide (((n : Int) : Int) < 1))) (wt0 rfl) rfl rfl (x_move rfl rfl) ?_)
    by_cases hb2 : ((n : Int) : Int) < 1
    · skip
      refine l_of (s_not (wn1 rfl rfl rfl rfl (decide_eq_true hb2)) rfl rfl ?_)
      refine l_of (s_not (wn1 rfl rfl rfl rfl (decide_eq_true hb2)) rfl rfl ?_)
      refine l_of (s_val (v := .bool true) (wt0 rfl) rfl rfl (x_pick_t rfl rfl (decide_eq_true hb2) rfl) ?_)
      refine l_of (s_val (v := .bool true) (wt0 rfl) rfl rfl (x_assign rfl rfl) ?_)
      refine g_nil ?_
      refine g_then ?_
      refine g_weak [(0, .string root), (1, .int .i64 ((n : Int))), (15, .bool true)] ⟨rfl, rfl, rfl, trivial⟩ ?_
      refine g_cond_t rfl rfl ?_
      refine g_seq ?_
      refine g_region ?_
      refine l_of (s_val (v := .pointer none) (wt0 rfl) rfl rfl (x_assign rfl rfl) ?_)
      refine l_of (s_val (v := .int .i64 7) (wt0 rfl) rfl rfl (x_assign rfl rfl) ?_)
      refine g_nil ?_
      refine g_then ?_
      refine g_ret ?_
      refine g_in_ret ?_
      refine g_then_ret ?_
      refine fin_ret [.tmp 4, .tmp 5] [.pointer none, .int .i64 7] rfl ⟨rfl, rfl, trivial⟩ ?_
      omega
    · skip
      refine l_of (s_val (v := .int .i64 ((n : Int))) (wt1 rfl rfl rfl rfl (decide_eq_false hb2)) rfl rfl (x_move rfl rfl) ?_)
      refine l_of (s_val (v := .bool (decide ((4096 : Int) < (n : Int)))) (wt1 rfl rfl rfl rfl (decide_eq_false hb2)) rfl rfl (x_bin rfl rfl rfl b_gtr) ?_)
      refine l_of (s_val (v := .bool (decide ((4096 : Int) < (n : Int)))) (wt0 rfl) rfl rfl (x_pick_f rfl rfl (decide_eq_false hb2) rfl) ?_)
      refine l_of (s_val (v := .bool (decide ((4096 : Int) < (n : Int)))) (wt0 rfl) rfl rfl (x_assign rfl rfl) ?_)
      refine g_nil ?_
      refine g_then ?_
      refine g_weak [(0, .string root), (1, .int .i64 ((n : Int))), (15, .bool (decide ((4096 : Int) < (n : Int))))] ⟨rfl, rfl, rfl, trivial⟩ ?_
      by_cases hb3 : (4096 : Int) < (n : Int)
      · skip
        refine g_cond_t rfl (decide_eq_true hb3) ?_
        refine g_seq ?_
        refine g_region ?_
        refine l_of (s_val (v := .pointer none) (wt0 rfl) rfl rfl (x_assign rfl rfl) ?_)
        refine l_of (s_val (v := .int .i64 7) (wt0 rfl) rfl rfl (x_assign rfl rfl) ?_)
        refine g_nil ?_
        refine g_then ?_
        refine g_ret ?_
        refine g_in_ret ?_
        refine g_then_ret ?_
        refine fin_ret [.tmp 4, .tmp 5] [.pointer none, .int .i64 7] rfl ⟨rfl, rfl, trivial⟩ ?_
        omega
      · skip
        refine g_cond_f rfl (decide_eq_false hb3) ?_
        refine g_skip ?_
        refine g_in ?_
        refine g_then ?_
        refine g_seq ?_
        refine g_region ?_
        refine l_of (s_val (v := .int .i64 ((n : Int))) (wt0 rfl) rfl rfl (x_move rfl rfl) ?_)
        refine l_of (s_val (v := .int .i64 ((n : Int))) (wt0 rfl) rfl rfl (x_move rfl rfl) ?_)
        refine l_of (s_call (wt0 rfl) (x_call' rfl rfl cl38) (tall_r _ (by omega) _) ?_)
        rintro _ wq4 ⟨rfl, H5⟩
        replace H5 : S wq4 [Old w no] := H0.absorb (new := []) H5
        refine b_ret rfl rfl ?_
        refine l_of (s_makeMap (α := ByteArray) placeV Value.string placeOk H5 (wt0 rfl) rfl rfl rfl ?_)
        intro mg6 wq7 H8
        replace H8 : S wq7 [Mp placeV Value.string placeOk mg6 (fun _ => none), Old w no] := H8
        refine l_of (s_val (v := .agg #[.int .i64 ((n : Int)), .int .i64 ((((tallN n) : Nat) : Int)), .map (some mg6)]) (wt0 rfl) rfl rfl (x_build (vs := [.int .i64 ((n : Int)), .int .i64 ((((tallN n) : Nat) : Int)), .map (some mg6)]) rfl rfl (cells := #[.int .i64 ((n : Int)), .int .i64 ((((tallN n) : Nat) : Int)), .map (some mg6)]) (by kernel_rfl)) ?_)
        refine l_of (s_box H8 (wt0 rfl) rfl rfl rfl rfl ?_)
        intro g9 wq10 H11
        refine l_of (s_val (v := .pointer (some ⟨g9, 0, none⟩)) (wt0 rfl) rfl rfl (x_assign rfl rfl) ?_)
        refine g_nil ?_
        refine g_then ?_
        refine g_seq ?_
        refine g_seq ?_
        refine g_region ?_
        refine l_of (s_val (v := .pointer (some ⟨g9, 0, none⟩)) (wt0 rfl) rfl rfl (x_move rfl rfl) ?_)
        refine l_of (s_val (v := .pointer (some ⟨g9, 0, none⟩)) (wt0 rfl) rfl rfl (x_nilCheck rfl rfl) ?_)
        refine l_of (s_val (v := .pointer (some ⟨g9, 1, none⟩)) (wt0 rfl) rfl rfl (x_fieldAddr rfl rfl fo50_1 rfl) ?_)
        refine l_of (s_val (v := .int .i64 ((((tallN n) : Nat) : Int))) (wt0 rfl) rfl rfl (x_load1 H11 0 rfl rfl Tryz.underlying3 rfl rfl rfl) ?_)
        refine l_of (s_val (v := .int .i64 ((((tallN n) + 1 : Nat) : Int))) (wt0 rfl) rfl rfl (x_bin rfl rfl rfl (b_addN (a := (tallN n)) (b := 1) (by omega))) ?_)
        refine l_of (s_val (v := .int .i64 0) (wt0 rfl) rfl rfl (x_move rfl rfl) ?_)
        refine g_nil ?_
        refine g_then ?_
        refine g_block ?_
        refine g_loop (ι := Nat) (fun a => [(0, .string root), (1, .int .i64 ((n : Int))), (6, .pointer (some ⟨g9, 0, none⟩)), (32, .int .i64 ((((tallN n) + 1 : Nat) : Int))), (33, .int .i64 ((a : Int)))]) (fun a wx => (a ≤ (tallN n) + 1) ∧ S wx [Mp placeV Value.string placeOk mg6 (nzM n (tallN n) a), Ob g9 (.cells #[.int .i64 ((n : Int)), .int .i64 ((((tallN n) : Nat) : Int)), .map (some mg6)] 50 (0, 0)), Old w no]) (fun a => (tallN n) + 1 - a) (0) ⟨rfl, rfl, rfl, rfl, rfl, trivial⟩ ⟨Nat.zero_le _, (H11.takes [1, 0, 2] (by decide))⟩ ?_
        rintro a wq12 ⟨ha, H13⟩
        replace H13 : S wq12 [Mp placeV Value.string placeOk mg6 (nzM n (tallN n) a), Ob g9 (.cells #[.int .i64 ((n : Int)), .int .i64 ((((tallN n) : Nat) : Int)), .map (some mg6)] 50 (0, 0)), Old w no] := H13
        refine g_weak [(0, .string root), (1, .int .i64 ((n : Int))), (6, .pointer (some ⟨g9, 0, none⟩)), (32, .int .i64 ((((tallN n) + 1 : Nat) : Int))), (33, .int .i64 ((a : Int)))] ⟨rfl, rfl, rfl, rfl, rfl, trivial⟩ ?_
        refine g_seq ?_
        refine g_region ?_
        refine l_of (s_val (v := .bool (decide (((a : Int) : Int) < (((tallN n) + 1 : Nat) : Int)))) (wt0 rfl) rfl rfl (x_bin rfl rfl rfl b_lss) ?_)
        refine g_nil ?_
        refine g_then ?_
        refine g_seq ?_
        by_cases hb14 : ((a : Int) : Int) < (((tallN n) + 1 : Nat) : Int)
        · skip
          refine g_cond_t rfl (decide_eq_true hb14) ?_
          refine g_skip ?_
          refine g_then ?_
          refine g_seq ?_
          refine g_block ?_
          refine g_seq ?_
          refine g_region ?_
          refine l_of (s_val (v := .int .i64 ((a : Int))) (wt0 rfl) rfl rfl (x_move rfl rfl) ?_)
          refine l_of (s_val (v := .int .i64 ((a : Int))) (wt0 rfl) rfl rfl (x_assign rfl rfl) ?_)
          refine g_nil ?_
          refine g_then ?_
          refine g_seq ?_
          refine g_region ?_
          refine l_of (s_val (v := .int .i64 ((a : Int))) (wt0 rfl) rfl rfl (x_move rfl rfl) ?_)
          refine l_of (s_call (wt0 rfl) (x_call' rfl rfl cl39) (zeroAt_r _ (by omega) _) ?_)
          rintro _ wq15 ⟨rfl, H16⟩
          replace H16 : S wq15 [Mp placeV Value.string placeOk mg6 (nzM n (tallN n) a), Ob g9 (.cells #[.int .i64 ((n : Int)), .int .i64 ((((tallN n) : Nat) : Int)), .map (some mg6)] 50 (0, 0)), Old w no] := H13.absorb (new := []) H16
          refine b_ret rfl rfl ?_
          refine l_of (s_val (v := .tuple #[.string ((zeroS a)), .int .i64 0]) (wt0 rfl) rfl rfl (x_move rfl rfl) ?_)
          refine l_of (s_val (v := .string ((zeroS a))) (wt0 rfl) rfl rfl (x_extract rfl rfl rfl) ?_)
          refine l_of (s_val (v := .int .i64 0) (wt0 rfl) rfl rfl (x_extract rfl rfl rfl) ?_)
          refine l_of (s_val (v := .string ((zeroS a))) (wt0 rfl) rfl rfl (x_assign rfl rfl) ?_)
          refine l_of (s_val (v := .int .i64 0) (wt0 rfl) rfl rfl (x_assign rfl rfl) ?_)
          refine g_nil ?_
          refine g_then ?_
          refine g_seq ?_
          refine g_region ?_
          refine l_of (s_val (v := .int .i64 ((n : Int))) (wt0 rfl) rfl rfl (x_move rfl rfl) ?_)
          refine l_of (s_val (v := .int .i64 ((a : Int))) (wt0 rfl) rfl rfl (x_move rfl rfl) ?_)
          refine l_of (s_call (wt0 rfl) (x_call' rfl rfl cl25) (count_r _ _ (by omega) (by omega) (by omega) _) ?_)
          rintro _ wq17 ⟨rfl, H18⟩
          replace H18 : S wq17 [Mp placeV Value.string placeOk mg6 (nzM n (tallN n) a), Ob g9 (.cells #[.int .i64 ((n : Int)), .int .i64 ((((tallN n) : Nat) : Int)), .map (some mg6)] 50 (0, 0)), Old w no] := H16.absorb (new := []) H18
          refine b_ret rfl rfl ?_
          refine l_of (s_val (v := .int .i64 (((countN n a : Nat) : Int))) (wt0 rfl) rfl rfl (x_assign rfl rfl) ?_)
          refine g_nil ?_
          refine g_then ?_
          refine g_block ?_
          have hcl := count_le (n := n) (v := a) (by omega) (by omega) (by omega)
          have hpw : 2 ^ ((tallN n) - a) ≤ 4096 := Nat.pow_le_pow_right (by omega) (show (tallN n) - a ≤ 12 by omega)
          have hza := zeroS_size a
          refine g_loop (ι := Nat) (fun j => [(0, .string root), (1, .int .i64 ((n : Int))), (6, .pointer (some ⟨g9, 0, none⟩)), (7, .int .i64 ((a : Int))), (8, .string ((zeroS a))), (10, .int .i64 (((countN n a + j : Nat) : Int))), (32, .int .i64 ((((tallN n) + 1 : Nat) : Int))), (33, .int .i64 ((a : Int)))]) (fun j wx => (countN n a + j ≤ 2 ^ ((tallN n) - a)) ∧ S wx [Mp placeV Value.string placeOk mg6 (zM (nzM n (tallN n) a) a (countN n a) (zeroS a) j), Ob g9 (.cells #[.int .i64 ((n : Int)), .int .i64 ((((tallN n) : Nat) : Int)), .map (some mg6)] 50 (0, 0)), Old w no]) (fun j => 2 ^ ((tallN n) - a) - (countN n a + j)) (0) ⟨rfl, rfl, rfl, rfl, rfl, rfl, rfl, rfl, trivial⟩ ⟨hcl, (H18.takes [0, 1, 2] (by decide))⟩ ?_
          rintro j wq19 ⟨hj, H20⟩
          replace H20 : S wq19 [Mp placeV Value.string placeOk mg6 (zM (nzM n (tallN n) a) a (countN n a) (zeroS a) j), Ob g9 (.cells #[.int .i64 ((n : Int)), .int .i64 ((((tallN n) : Nat) : Int)), .map (some mg6)] 50 (0, 0)), Old w no] := H20
          refine g_weak [(0, .string root), (1, .int .i64 ((n : Int))), (6, .pointer (some ⟨g9, 0, none⟩)), (7, .int .i64 ((a : Int))), (8, .string ((zeroS a))), (10, .int .i64 (((countN n a + j : Nat) : Int))), (32, .int .i64 ((((tallN n) + 1 : Nat) : Int))), (33, .int .i64 ((a : Int)))] ⟨rfl, rfl, rfl, rfl, rfl, rfl, rfl, rfl, trivial⟩ ?_
          refine g_seq ?_
          refine g_seq ?_
          refine g_region ?_
          refine l_of (s_val (v := .int .i64 (((countN n a + j : Nat) : Int))) (wt0 rfl) rfl rfl (x_move rfl rfl) ?_)
          refine l_of (s_val (v := .pointer (some ⟨g9, 0, none⟩)) (wt0 rfl) rfl rfl (x_move rfl rfl) ?_)
          refine l_of (s_val (v := .pointer (some ⟨g9, 0, none⟩)) (wt0 rfl) rfl rfl (x_nilCheck rfl rfl) ?_)
          refine l_of (s_val (v := .pointer (some ⟨g9, 1, none⟩)) (wt0 rfl) rfl rfl (x_fieldAddr rfl rfl fo50_1 rfl) ?_)
          refine l_of (s_val (v := .int .i64 ((((tallN n) : Nat) : Int))) (wt0 rfl) rfl rfl (x_load1 H20 1 rfl rfl Tryz.underlying3 rfl rfl rfl) ?_)
          refine l_of (s_val (v := .int .i64 ((a : Int))) (wt0 rfl) rfl rfl (x_move rfl rfl) ?_)
          refine l_of (s_val (v := .int .i64 ((((tallN n) - a : Nat) : Int))) (wt0 rfl) rfl rfl (x_bin rfl rfl rfl (b_subN (a := (tallN n)) (b := a) (by omega))) ?_)
          refine l_of (s_call (wt0 rfl) (x_call' rfl rfl cl40) (two_r ((tallN n) - a) (by omega) _) ?_)
          rintro _ wq21 ⟨rfl, H22⟩
          replace H22 : S wq21 [Mp placeV Value.string placeOk mg6 (zM (nzM n (tallN n) a) a (countN n a) (zeroS a) j), Ob g9 (.cells #[.int .i64 ((n : Int)), .int .i64 ((((tallN n) : Nat) : Int)), .map (some mg6)] 50 (0, 0)), Old w no] := H20.absorb (new := []) H22
          refine b_ret rfl rfl ?_
          refine l_of (s_val (v := .bool (decide ((((countN n a + j : Nat) : Int) : Int) < ((2 ^ ((tallN n) - a) : Nat) : Int)))) (wt0 rfl) rfl rfl (x_bin rfl rfl rfl b_lss) ?_)
          refine g_nil ?_
          refine g_then ?_
          by_cases hb23 : (((countN n a + j : Nat) : Int) : Int) < ((2 ^ ((tallN n) - a) : Nat) : Int)
          · skip
            refine g_cond_t rfl (decide_eq_true hb23) ?_
            refine g_skip ?_
            refine g_then ?_
            refine g_seq ?_
            refine g_block ?_
            refine g_region ?_
            refine l_of (s_val (v := .pointer (some ⟨g9, 0, none⟩)) (wt0 rfl) rfl rfl (x_move rfl rfl) ?_)
            refine l_of (s_val (v := .pointer (some ⟨g9, 0, none⟩)) (wt0 rfl) rfl rfl (x_nilCheck rfl rfl) ?_)
            refine l_of (s_val (v := .pointer (some ⟨g9, 2, none⟩)) (wt0 rfl) rfl rfl (x_fieldAddr rfl rfl fo50_2 rfl) ?_)
            refine l_of (s_val (v := .map (some mg6)) (wt0 rfl) rfl rfl (x_load1 H22 1 rfl rfl Tryz.underlying48 rfl rfl rfl) ?_)
            refine l_of (s_val (v := .int .i64 ((a : Int))) (wt0 rfl) rfl rfl (x_move rfl rfl) ?_)
            refine l_of (s_val (v := .int .i64 (((countN n a + j : Nat) : Int))) (wt0 rfl) rfl rfl (x_move rfl rfl) ?_)
            refine l_of (s_val (v := .agg #[.int .i64 ((a : Int)), .int .i64 (((countN n a + j : Nat) : Int))]) (wt0 rfl) rfl rfl (x_build (vs := [.int .i64 ((a : Int)), .int .i64 (((countN n a + j : Nat) : Int))]) rfl rfl (cells := #[.int .i64 ((a : Int)), .int .i64 (((countN n a + j : Nat) : Int))]) (by kernel_rfl)) ?_)
            refine l_of (s_val (v := .string ((zeroS a))) (wt0 rfl) rfl rfl (x_move rfl rfl) ?_)
            refine l_of (s_mapUpdate (x := (a, (countN n a + j))) (a := (zeroS a)) placeR H22 0 (wt0 rfl) rfl rfl rfl rfl rfl rfl ⟨by (show _ ≤ 1099511627776); omega, by (show _ ≤ 1099511627776); omega⟩ ?_)
            intro wq24 H25
            replace H25 : S wq24 [Mp placeV Value.string placeOk mg6 (zM (nzM n (tallN n) a) a (countN n a) (zeroS a) (j + 1)), Ob g9 (.cells #[.int .i64 ((n : Int)), .int .i64 ((((tallN n) : Nat) : Int)), .map (some mg6)] 50 (0, 0)), Old w no] := H25
            refine g_nil ?_
            refine g_in ?_
            refine g_then ?_
            refine g_weak [(0, .string root), (1, .int .i64 ((n : Int))), (6, .pointer (some ⟨g9, 0, none⟩)), (7, .int .i64 ((a : Int))), (8, .string ((zeroS a))), (10, .int .i64 (((countN n a + j : Nat) : Int))), (32, .int .i64 ((((tallN n) + 1 : Nat) : Int))), (33, .int .i64 ((a : Int)))] ⟨rfl, rfl, rfl, rfl, rfl, rfl, rfl, rfl, trivial⟩ ?_
            refine g_region ?_
            refine l_of (s_val (v := .int .i64 (((countN n a + j : Nat) : Int))) (wt0 rfl) rfl rfl (x_move rfl rfl) ?_)
            refine l_of (s_val (v := .int .i64 (((countN n a + (j + 1) : Nat) : Int))) (wt0 rfl) rfl rfl (x_bin rfl rfl rfl (b_addN (a := countN n a + j) (b := 1) (by omega))) ?_)
            refine l_of (s_val (v := .int .i64 (((countN n a + (j + 1) : Nat) : Int))) (wt0 rfl) rfl rfl (x_assign rfl rfl) ?_)
            refine g_nil ?_
            refine g_then ?_
            refine g_round (i := (j)) (j + 1) ?_ ?_ ?_
            · exact ⟨rfl, rfl, rfl, rfl, rfl, rfl, rfl, rfl, trivial⟩
            · exact ⟨by omega, (H25.takes [0, 1, 2] (by decide))⟩
            · (try dsimp only); omega
          · skip
            have hjj : j = 2 ^ ((tallN n) - a) - countN n a := by omega
            subst hjj
            refine g_cond_f rfl (decide_eq_false hb23) ?_
            refine g_exit ?_
            refine g_then_exit ?_
            refine g_then_exit ?_
            refine g_in_hit ?_
            refine g_in ?_
            refine g_then ?_
            refine g_weak [(0, .string root), (1, .int .i64 ((n : Int))), (6, .pointer (some ⟨g9, 0, none⟩)), (32, .int .i64 ((((tallN n) + 1 : Nat) : Int))), (33, .int .i64 ((a : Int)))] ⟨rfl, rfl, rfl, rfl, rfl, trivial⟩ ?_
            refine g_region ?_
            refine l_of (s_val (v := .int .i64 ((a : Int) + 1)) (wt0 rfl) rfl rfl (x_bin rfl rfl rfl (b_add (w64 (by omega)))) ?_)
            refine l_of (s_val (v := .int .i64 ((a : Int) + 1)) (wt0 rfl) rfl rfl (x_move rfl rfl) ?_)
            refine g_nil ?_
            refine g_then ?_
            refine g_round (i := (a)) (a + 1) ?_ ?_ ?_
            · exact ⟨rfl, rfl, rfl, rfl, rfl, trivial⟩
            · exact ⟨by omega, (H22.takes [0, 1, 2] (by decide))⟩
            · (try dsimp only); omega
        · skip
          have haa : a = (tallN n) + 1 := by omega
          subst haa
          refine g_cond_f rfl (decide_eq_false hb14) ?_
          refine g_exit ?_
          refine g_then_exit ?_
          refine g_then_exit ?_
          refine g_in_hit ?_
          refine g_then ?_
          refine g_seq ?_
          refine g_any [] (fun wx => S wx [Ob g9 (.cells #[.int .i64 ((n : Int)), .int .i64 ((((tallN n) : Nat) : Int)), .map (some mg6)] 50 (0, 0))]) [10] (by kernel_rfl) H13 (fun wq26 H27 => ?_)
          refine a_take (v := .pointer (some ⟨g9, 0, none⟩)) 0 rfl (wt0 rfl) rfl rfl rfl (by kernel_rfl) (by kernel_rfl) (by kernel_rfl) (by kernel_rfl) (H27.mask [false, true, false]) (fun wx H => x_move rfl rfl) ?_
          refine a_take (v := .pointer (some ⟨g9, 0, none⟩)) 1 rfl (wt0 rfl) rfl rfl rfl (by kernel_rfl) (by kernel_rfl) (by kernel_rfl) (by kernel_rfl) (H27.mask [false, true, false]) (fun wx H => x_nilCheck rfl rfl) ?_
          refine a_take (v := .pointer (some ⟨g9, 2, none⟩)) 2 rfl (wt0 rfl) rfl rfl rfl (by kernel_rfl) (by kernel_rfl) (by kernel_rfl) (by kernel_rfl) (H27.mask [false, true, false]) (fun wx H => x_fieldAddr rfl rfl fo50_2 rfl) ?_
          refine a_take (v := .map (some mg6)) 3 rfl (wt0 rfl) rfl rfl rfl (by kernel_rfl) (by kernel_rfl) (by kernel_rfl) (by kernel_rfl) (H27.mask [false, true, false]) (fun wx H => x_load1 H 0 rfl rfl Tryz.underlying48 rfl rfl rfl) ?_
          refine a_take (v := .pointer (some ⟨g9, 0, none⟩)) 4 rfl (wt0 rfl) rfl rfl rfl (by kernel_rfl) (by kernel_rfl) (by kernel_rfl) (by kernel_rfl) (H27.mask [false, true, false]) (fun wx H => x_move rfl rfl) ?_
          refine a_take (v := .pointer (some ⟨g9, 0, none⟩)) 5 rfl (wt0 rfl) rfl rfl rfl (by kernel_rfl) (by kernel_rfl) (by kernel_rfl) (by kernel_rfl) (H27.mask [false, true, false]) (fun wx H => x_nilCheck rfl rfl) ?_
          refine a_take (v := .pointer (some ⟨g9, 1, none⟩)) 6 rfl (wt0 rfl) rfl rfl rfl (by kernel_rfl) (by kernel_rfl) (by kernel_rfl) (by kernel_rfl) (H27.mask [false, true, false]) (fun wx H => x_fieldAddr rfl rfl fo50_1 rfl) ?_
          refine a_take (v := .int .i64 ((((tallN n) : Nat) : Int))) 7 rfl (wt0 rfl) rfl rfl rfl (by kernel_rfl) (by kernel_rfl) (by kernel_rfl) (by kernel_rfl) (H27.mask [false, true, false]) (fun wx H => x_load1 H 0 rfl rfl Tryz.underlying3 rfl rfl rfl) ?_
          refine a_take (v := .agg #[.int .i64 ((((tallN n) : Nat) : Int)), .int .i64 0]) 8 rfl (wt0 rfl) rfl rfl rfl (by kernel_rfl) (by kernel_rfl) (by kernel_rfl) (by kernel_rfl) (H27.mask [false, true, false]) (fun wx H => x_build (vs := [.int .i64 ((((tallN n) : Nat) : Int)), .int .i64 0]) rfl rfl (cells := #[.int .i64 ((((tallN n) : Nat) : Int)), .int .i64 0]) (by kernel_rfl)) ?_
          refine a_take (v := .string root) 9 rfl (wt0 rfl) rfl rfl rfl (by kernel_rfl) (by kernel_rfl) (by kernel_rfl) (by kernel_rfl) (H27.mask [false, true, false]) (fun wx H => x_move rfl rfl) ?_
          refine a_one (i := 10) (by kernel_rfl) rfl ?_
          refine s_mapUpdate (x := (((tallN n)), 0)) (a := root) placeR H27 0 (wt0 rfl) rfl rfl rfl rfl rfl rfl ⟨by (show _ ≤ 1099511627776); omega, by (show _ ≤ 1099511627776); omega⟩ ?_
          intro wq28 H29
          replace H29 : S wq28 [Mp placeV Value.string placeOk mg6 (newR n (tallN n) root), Ob g9 (.cells #[.int .i64 ((n : Int)), .int .i64 ((((tallN n) : Nat) : Int)), .map (some mg6)] 50 (0, 0)), Old w no] := H29
          refine a_kt rfl ?_
          refine a_done (by kernel_rfl) ?_
          refine g_then ?_
          refine g_weak [(6, .pointer (some ⟨g9, 0, none⟩))] ⟨rfl, trivial⟩ ?_
          refine g_seq ?_
          refine g_region ?_
          refine l_of (s_val (v := .pointer (some ⟨g9, 0, none⟩)) (wt0 rfl) rfl rfl (x_move rfl rfl) ?_)
          refine l_of (s_val (v := .pointer (some ⟨g9, 0, none⟩)) (wt0 rfl) rfl rfl (x_assign rfl rfl) ?_)
          refine l_of (s_val (v := .int .i64 0) (wt0 rfl) rfl rfl (x_assign rfl rfl) ?_)
          refine g_nil ?_
          refine g_then ?_
          refine g_ret ?_
          refine fin_ret [.tmp 4, .tmp 5] [.pointer (some ⟨g9, 0, none⟩), .int .i64 0] rfl ⟨rfl, rfl, trivial⟩ ?_
          exact ⟨g9, mg6, rfl, H29.takes [1, 0, 2] (by decide)⟩
  · skip
    refine g_cond_t rfl (nt hb1) ?_
    refine g_seq ?_
    refine g_region ?_
    refine l_of (s_val (v := .pointer none) (wt0 rfl) rfl rfl (x_assign rfl rfl) ?_)
    refine l_of (s_val (v := .int .i64 1) (wt0 rfl) rfl rfl (x_assign rfl rfl) ?_)
    refine g_nil ?_
    refine g_then ?_
    refine g_ret ?_
    refine g_in_ret ?_
    refine g_then_ret ?_
    refine fin_ret [.tmp 4, .tmp 5] [.pointer none, .int .i64 1] rfl ⟨rfl, rfl, trivial⟩ ?_
    omega
end Go.Proofs.YtlajgickimgigaaGreat
