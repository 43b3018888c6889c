import Derived.Test.YtlajgickimgigaaGreatUG
import Derived.Test.YtlajgickimgigaaGreatFc
set_option linter.unusedSimpArgs false
set_option linter.unusedVariables false
namespace Go.Proofs.YtlajgickimgigaaGreat
open Go.RowKit

theorem cl44 : callable Tryz.prog 44 = true := by kernel_rfl
theorem b_andI {P : Program} {t xo yo} {w : World} {a b : Int} (h : 0 ≤ a ∧ 0 ≤ b ∧ a < 9223372036854775808 ∧ b < 9223372036854775808) : Bin P .and t xo yo (.int .i64 a) (.int .i64 b) w (.int .i64 ((a.toNat &&& b.toNat : Nat) : Int)) := by
  refine b_bits (.inl rfl) ?_
  have ea : a = (a.toNat : Int) := by omega
  have eb : b = (b.toNat : Int) := by omega
  have h2 : a.toNat &&& b.toNat ≤ a.toNat := Nat.and_le_left
  have e : (BitVec.ofInt IntKind.i64.bits a &&& BitVec.ofInt IntKind.i64.bits b).toNat = a.toNat &&& b.toNat := by
    show (BitVec.ofInt 64 a &&& BitVec.ofInt 64 b).toNat = _
    rw [ea, eb, ofInt_nat, ofInt_nat, BitVec.toNat_and, BitVec.toNat_ofNat, BitVec.toNat_ofNat, Nat.mod_eq_of_lt (by omega), Nat.mod_eq_of_lt (by omega)]
    simp only [Int.toNat_natCast]
  simp only [Op.intBits, e]
  rw [wrap_nat (by omega)]; rfl
/-- k for 2 ^ k; -1 for other numbers. -/
def powerV (c : Int) : Int := if 1 ≤ c ∧ c ≤ 4096 ∧ 2 ^ tallN c.toNat = c.toNat then ((tallN c.toNat : Nat) : Int) else -1
theorem tall_pow {k : Nat} (hk : k ≤ 40) : tallN (2 ^ k) = k := tallN_of (by omega) (Nat.le_refl _) (fun j hj => Nat.pow_lt_pow_right (by omega) hj)
theorem pow_and {c : Nat} (h1 : 1 ≤ c) (hc : c ≤ 1099511627776) : c &&& (c - 1) = 0 ↔ 2 ^ tallN c = c := by
  rw [Nat.and_sub_one_eq_zero_iff_isPowerOfTwo (by omega)]
  constructor
  · rintro ⟨k, rfl⟩
    have hk : k ≤ 40 := by
      rcases Nat.lt_or_ge 40 k with h | h
      · have : 2 ^ 41 ≤ 2 ^ k := Nat.pow_le_pow_right (by omega) h
        omega
      · exact h
    rw [tall_pow hk]
  · intro h; exact ⟨tallN c, h.symm⟩
theorem power_pos {c : Int} (h : 0 ≤ powerV c) : 1 ≤ c ∧ c ≤ 4096 ∧ 2 ^ tallN c.toNat = c.toNat ∧ powerV c = ((tallN c.toNat : Nat) : Int) := by
  unfold powerV at h ⊢
  split at h
  · rename_i h1; rw [if_pos h1]; exact ⟨h1.1, h1.2.1, h1.2.2, rfl⟩
  · omega
theorem power_of {c : Int} (h1 : 1 ≤ c) (h2 : c ≤ 4096) (h3 : 2 ^ tallN c.toNat = c.toNat) : powerV c = ((tallN c.toNat : Nat) : Int) := if_pos ⟨h1, h2, h3⟩
/-- Whether a run is right. -/
def rightB (h : Nat) (v i c : Int) : Bool := decide (0 ≤ v ∧ v ≤ (h : Int) ∧ 0 ≤ powerV c ∧ v + powerV c ≤ (h : Int) ∧ 0 ≤ i ∧ i < ((2 ^ (h - v.toNat) : Nat) : Int) ∧ i % c = 0)
theorem right_t {h : Nat} {v i c : Int} (hh : h ≤ 12) (hn : nodeOk h v i = true) (h1 : 1 ≤ c) (h2 : c.toNat &&& (c - 1).toNat = 0) (h3 : c ≤ ((2 ^ (h - v.toNat) : Nat) : Int)) (h4 : i % c = 0) : rightB h v i c = true := by
  obtain ⟨n1, n2, n3, n4⟩ := nodeOk_s hn
  have h5 : 2 ^ (h - v.toNat) ≤ 2 ^ 12 := Nat.pow_le_pow_right (by omega) (by omega)
  rw [show (c - 1).toNat = c.toNat - 1 from by omega, pow_and (by omega) (by omega)] at h2
  have hp := power_of h1 (by omega) h2
  have h6 : tallN c.toNat ≤ h - v.toNat := (Nat.pow_le_pow_iff_right (by omega : 1 < 2)).1 (by omega)
  exact decide_eq_true ⟨n1, n2, by omega, by omega, n3, n4, h4⟩
theorem right_s {h : Nat} {v i c : Int} (hh : h ≤ 12) (hr : rightB h v i c = true) : nodeOk h v i = true ∧ 1 ≤ c ∧ c.toNat &&& (c - 1).toNat = 0 ∧ c ≤ ((2 ^ (h - v.toNat) : Nat) : Int) ∧ i % c = 0 ∧ 2 ^ tallN c.toNat = c.toNat ∧ tallN c.toNat ≤ h - v.toNat ∧ c ≤ 4096 ∧ powerV c = ((tallN c.toNat : Nat) : Int) := by
  obtain ⟨n1, n2, n3, n4, n5, n6, n7⟩ := of_decide_eq_true hr
  obtain ⟨p1, p2, p3, p4⟩ := power_pos n3
  have h6 : 2 ^ tallN c.toNat ≤ 2 ^ (h - v.toNat) := Nat.pow_le_pow_right (by omega) (by omega)
  refine ⟨nodeOk_t n1 n2 n5 n6, p1, ?_, by omega, n7, p3, by omega, p2, p4⟩
  rw [show (c - 1).toNat = c.toNat - 1 from by omega, pow_and (by omega) (by omega)]
  exact p3
theorem right_f {h : Nat} {v i c : Int} (hh : h ≤ 12) (hb : nodeOk h v i = false ∨ c < 1 ∨ ¬ c.toNat &&& (c - 1).toNat = 0 ∨ ((2 ^ (h - v.toNat) : Nat) : Int) < c ∨ ¬ i % c = 0) : rightB h v i c = false := by
  cases hr : rightB h v i c with
  | false => rfl
  | true =>
    obtain ⟨a1, a2, a3, a4, a5, _⟩ := right_s hh hr
    rcases hb with h | h | h | h | h
    · rw [a1] at h; cases h
    · omega
    · exact absurd a3 h
    · omega
    · exact absurd a5 h
def runV (h : Nat) (v i c : Int) : Ending := if rightB h v i c = true then .returned (.int .i64 ((tallN c.toNat : Nat) : Int)) else .panicked [{ v := .iface 105 (.int .i64 7), recovered := false }]
theorem tall_two {c : Int} (h : 1 ≤ c ∧ c ≤ 4096) : tallN c.toNat ≤ 12 := tall_le12 (by omega)
theorem two_i (k : Int) (h0 : 0 ≤ k) (hk : k ≤ 60) (w : World) : Calls Tryz.prog 40 #[.int .i64 k] w fun e w' => e = .returned (.int .i64 ((2 ^ k.toNat : Nat) : Int)) ∧ S w' [Old w no] := by
  have e : k = (k.toNat : Int) := by omega
  have := two_r k.toNat (by omega) w
  rw [← e] at this; exact this
set_option maxRecDepth 20000 in
set_option maxHeartbeats 4000000 in
set_option maxRecDepth 20000 in
set_option maxHeartbeats 4000000 in
theorem power_r (c : Int) (w : World) : Calls Tryz.prog 44 #[.int .i64 c] w fun e w' => e = .returned (.int .i64 (powerV c)) ∧ S w' [Old w no] := by
  have H0 := S.old w
  refine enter 17 Tryz.func44 rfl rfl rfl ?_
  refine g_weak [(0, .int .i64 c)] ⟨rfl, trivial⟩ ?_
  refine g_seq ?_
  refine g_region ?_
  refine l_of (s_val (v := .int .i64 0) (wt0 rfl) rfl rfl (x_assign rfl rfl) ?_)
  refine g_nil ?_
  refine g_then ?_
  refine g_seq ?_
  refine g_seq ?_
  refine g_region ?_
  refine l_of (s_val (v := .int .i64 c) (wt0 rfl) rfl rfl (x_move rfl rfl) ?_)
  refine l_of (s_val (v := .bool (decide ((c : Int) < 1))) (wt0 rfl) rfl rfl (x_bin rfl rfl rfl b_lss) ?_)
  refine l_of (s_val (v := .bool (decide ((c : Int) < 1))) (wt0 rfl) rfl rfl (x_move rfl rfl) ?_)
  by_cases hb1 : (c : Int) < 1
  · skip
    refine l_of (s_not (wn1 rfl rfl rfl rfl (decide_eq_true hb1)) rfl rfl ?_)
    refine l_of (s_not (wn1 rfl rfl rfl rfl (decide_eq_true hb1)) rfl rfl ?_)
    refine l_of (s_val (v := .bool true) (wt0 rfl) rfl rfl (x_pick_t rfl rfl (decide_eq_true hb1) rfl) ?_)
    refine g_nil ?_
    refine g_then ?_
    refine g_cond_t rfl rfl ?_
    refine g_seq ?_
    refine g_region ?_
    refine l_of (s_val (v := .int .i64 (-1)) (wt0 rfl) rfl rfl (x_assign rfl rfl) ?_)
    refine g_nil ?_
    refine g_then ?_
    refine g_ret ?_
    refine g_then_ret ?_
    refine fin_ret [.tmp 2] [.int .i64 (-1)] rfl ⟨rfl, trivial⟩ ?_
    exact ⟨by rw [show powerV c = -1 from if_neg (by omega)]; rfl, H0.mask [true]⟩
  · skip
    refine l_of (s_val (v := .int .i64 c) (wt1 rfl rfl rfl rfl (decide_eq_false hb1)) rfl rfl (x_move rfl rfl) ?_)
    refine l_of (s_val (v := .bool (decide ((4096 : Int) < c))) (wt1 rfl rfl rfl rfl (decide_eq_false hb1)) rfl rfl (x_bin rfl rfl rfl b_gtr) ?_)
    refine l_of (s_val (v := .bool (decide ((4096 : Int) < c))) (wt0 rfl) rfl rfl (x_pick_f rfl rfl (decide_eq_false hb1) rfl) ?_)
    refine g_nil ?_
    refine g_then ?_
    by_cases hb2 : (4096 : Int) < c
    · skip
      refine g_cond_t rfl (decide_eq_true hb2) ?_
      refine g_seq ?_
      refine g_region ?_
      refine l_of (s_val (v := .int .i64 (-1)) (wt0 rfl) rfl rfl (x_assign rfl rfl) ?_)
      refine g_nil ?_
      refine g_then ?_
      refine g_ret ?_
      refine g_then_ret ?_
      refine fin_ret [.tmp 2] [.int .i64 (-1)] rfl ⟨rfl, trivial⟩ ?_
      exact ⟨by rw [show powerV c = -1 from if_neg (by omega)]; rfl, H0.mask [true]⟩
    · skip
      refine g_cond_f rfl (decide_eq_false hb2) ?_
      refine g_skip ?_
      refine g_then ?_
      refine g_seq ?_
      refine g_region ?_
      refine l_of (s_val (v := .int .i64 c) (wt0 rfl) rfl rfl (x_move rfl rfl) ?_)
      refine l_of (s_call (wt0 rfl) (x_call' rfl rfl cl38) (tall_i _ (by first | omega | decide) _) ?_)
      rintro _ wq3 ⟨rfl, H4⟩
      replace H4 : S wq3 [Old w no] := H0.absorb (new := []) H4
      refine b_ret rfl rfl ?_
      refine l_of (s_val (v := .int .i64 (((tallN c.toNat : Nat) : Int))) (wt0 rfl) rfl rfl (x_assign rfl rfl) ?_)
      refine g_nil ?_
      refine g_then ?_
      refine g_seq ?_
      refine g_seq ?_
      refine g_region ?_
      refine l_of (s_val (v := .int .i64 (((tallN c.toNat : Nat) : Int))) (wt0 rfl) rfl rfl (x_move rfl rfl) ?_)
      have ht12 := tall_two (c := c) (by omega)
      have h2p : 2 ^ tallN c.toNat ≤ 4096 := Nat.pow_le_pow_right (by omega) ht12
      refine l_of (s_call (wt0 rfl) (x_call' rfl rfl cl40) (two_r (tallN c.toNat) (by omega) _) ?_)
      rintro _ wq5 ⟨rfl, H6⟩
      replace H6 : S wq5 [Old w no] := H4.absorb (new := []) H6
      refine b_ret rfl rfl ?_
      refine l_of (s_val (v := .int .i64 c) (wt0 rfl) rfl rfl (x_move rfl rfl) ?_)
      refine l_of (s_val (v := .bool (!decide ((((2 ^ tallN c.toNat : Nat) : Int) : Int) = c))) (wt0 rfl) rfl rfl (x_bin rfl rfl rfl b_neq) ?_)
      refine g_nil ?_
      refine g_then ?_
      refine g_weak [(3, .int .i64 (((tallN c.toNat : Nat) : Int))), (15, .bool (!decide ((((2 ^ tallN c.toNat : Nat) : Int) : Int) = c)))] ⟨rfl, rfl, trivial⟩ ?_
      by_cases hb7 : (((2 ^ tallN c.toNat : Nat) : Int) : Int) = c
      · skip
        refine g_cond_f rfl (nf hb7) ?_
        refine g_skip ?_
        refine g_then ?_
        refine g_seq ?_
        refine g_region ?_
        refine l_of (s_val (v := .int .i64 (((tallN c.toNat : Nat) : Int))) (wt0 rfl) rfl rfl (x_move rfl rfl) ?_)
        refine l_of (s_val (v := .int .i64 (((tallN c.toNat : Nat) : Int))) (wt0 rfl) rfl rfl (x_assign rfl rfl) ?_)
        refine g_nil ?_
        refine g_then ?_
        refine g_ret ?_
        refine fin_ret [.tmp 2] [.int .i64 (((tallN c.toNat : Nat) : Int))] rfl ⟨rfl, trivial⟩ ?_
        exact ⟨by rw [show powerV c = ((tallN c.toNat : Nat) : Int) from if_pos (by omega)]; rfl, H6.mask [true]⟩
      · skip
        refine g_cond_t rfl (nt hb7) ?_
        refine g_seq ?_
        refine g_region ?_
        refine l_of (s_val (v := .int .i64 (-1)) (wt0 rfl) rfl rfl (x_assign rfl rfl) ?_)
        refine g_nil ?_
        refine g_then ?_
        refine g_ret ?_
        refine g_then_ret ?_
        refine fin_ret [.tmp 2] [.int .i64 (-1)] rfl ⟨rfl, trivial⟩ ?_
        exact ⟨by rw [show powerV c = -1 from if_neg (by omega)]; rfl, H6.mask [true]⟩
def sibN (i : Nat) : Nat := if i % 2 = 0 then i + 1 else i - 1
theorem sib_xor (i : Nat) : sibN i = i ^^^ 1 := by
  unfold sibN
  apply Nat.eq_of_testBit_eq
  intro j
  rw [Nat.testBit_xor]
  split
  · rename_i h
    obtain ⟨k, rfl⟩ : ∃ k, i = 2 * k := ⟨i / 2, by omega⟩
    cases j with
    | zero => simp [Nat.testBit_zero]
    | succ j => simp [Nat.testBit_succ, show (2 * k + 1) / 2 = k from by omega]
  · rename_i h
    obtain ⟨k, rfl⟩ : ∃ k, i = 2 * k + 1 := ⟨i / 2, by omega⟩
    cases j with
    | zero => simp [Nat.testBit_zero]
    | succ j => simp [Nat.testBit_succ, show (2 * k + 1) / 2 = k from by omega]
set_option maxRecDepth 20000 in
set_option maxHeartbeats 4000000 in
set_option maxRecDepth 20000 in
set_option maxHeartbeats 4000000 in
theorem sib_r (i : Nat) (hi : i ≤ 1099511627776) (w : World) : Calls Tryz.prog 54 #[.int .i64 ((i : Int))] w fun e w' => e = .returned (.int .i64 ((sibN i : Nat) : Int)) ∧ S w' [Old w no] := by
  have H0 := S.old w
  refine enter 10 Tryz.func54 rfl rfl rfl ?_
  refine g_weak [(0, .int .i64 ((i : Int)))] ⟨rfl, trivial⟩ ?_
  refine g_seq ?_
  refine g_region ?_
  refine l_of (s_val (v := .int .i64 0) (wt0 rfl) rfl rfl (x_assign rfl rfl) ?_)
  refine g_nil ?_
  refine g_then ?_
  refine g_seq ?_
  refine g_seq ?_
  refine g_region ?_
  refine l_of (s_val (v := .int .i64 ((i : Int))) (wt0 rfl) rfl rfl (x_move rfl rfl) ?_)
  refine l_of (s_val (v := .int .i64 (((i % 2 : Nat) : Int))) (wt0 rfl) rfl rfl (x_bin rfl rfl rfl (b_remN (a := i) (b := 2) (by omega))) ?_)
  refine l_of (s_val (v := .bool (decide ((((i % 2 : Nat) : Int) : Int) = 0))) (wt0 rfl) rfl rfl (x_bin rfl rfl rfl b_eql) ?_)
  refine g_nil ?_
  refine g_then ?_
  by_cases hb1 : (((i % 2 : Nat) : Int) : Int) = 0
  · skip
    refine g_cond_t rfl (decide_eq_true hb1) ?_
    refine g_seq ?_
    refine g_region ?_
    refine l_of (s_val (v := .int .i64 ((i : Int))) (wt0 rfl) rfl rfl (x_move rfl rfl) ?_)
    refine l_of (s_val (v := .int .i64 ((i : Int) + 1)) (wt0 rfl) rfl rfl (x_bin rfl rfl rfl (b_add (w64 (by omega)))) ?_)
    refine l_of (s_val (v := .int .i64 ((i : Int) + 1)) (wt0 rfl) rfl rfl (x_assign rfl rfl) ?_)
    refine g_nil ?_
    refine g_then ?_
    refine g_ret ?_
    refine g_then_ret ?_
    refine fin_ret [.tmp 2] [.int .i64 ((i : Int) + 1)] rfl ⟨rfl, trivial⟩ ?_
    exact ⟨by unfold sibN; rw [if_pos (by omega)]; first | rfl | (refine congrArg (fun x => Ending.returned (.int .i64 x)) ?_; omega), H0.mask [true]⟩
  · skip
    refine g_cond_f rfl (decide_eq_false hb1) ?_
    refine g_skip ?_
    refine g_then ?_
    refine g_seq ?_
    refine g_region ?_
    refine l_of (s_val (v := .int .i64 ((i : Int))) (wt0 rfl) rfl rfl (x_move rfl rfl) ?_)
    refine l_of (s_val (v := .int .i64 ((i : Int) - 1)) (wt0 rfl) rfl rfl (x_bin rfl rfl rfl (b_sub (w64 (by omega)))) ?_)
    refine l_of (s_val (v := .int .i64 ((i : Int) - 1)) (wt0 rfl) rfl rfl (x_assign rfl rfl) ?_)
    refine g_nil ?_
    refine g_then ?_
    refine g_ret ?_
    refine fin_ret [.tmp 2] [.int .i64 ((i : Int) - 1)] rfl ⟨rfl, trivial⟩ ?_
    exact ⟨by unfold sibN; rw [if_neg (by omega)]; first | rfl | (refine congrArg (fun x => Ending.returned (.int .i64 x)) ?_; omega), H0.mask [true]⟩
set_option maxRecDepth 20000 in
set_option maxHeartbeats 4000000 in
set_option maxRecDepth 20000 in
set_option maxHeartbeats 4000000 in
theorem right_r (h : Nat) (v i c : Int) (hh : h ≤ 40) (w : World) : Calls Tryz.prog 42 #[.int .i64 ((h : Int)), .int .i64 v, .int .i64 i, .int .i64 c] w fun e w' => e = .returned (.bool (rightB h v i c)) ∧ S w' [Old w no] := by
  have H0 := S.old w
  refine enter 48 Tryz.func42 rfl rfl rfl ?_
  refine g_weak [(0, .int .i64 ((h : Int))), (1, .int .i64 v), (2, .int .i64 i), (3, .int .i64 c)] ⟨rfl, rfl, rfl, rfl, trivial⟩ ?_
  refine g_seq ?_
  refine g_region ?_
  refine l_of (s_val (v := .bool false) (wt0 rfl) rfl rfl (x_assign rfl rfl) ?_)
  refine g_nil ?_
  refine g_then ?_
  refine g_seq ?_
  refine g_region ?_
  refine l_of (s_val (v := .int .i64 c) (wt0 rfl) rfl rfl (x_move rfl rfl) ?_)
  refine l_of (s_call (wt0 rfl) (x_call' rfl rfl cl44) (power_r _ _) ?_)
  rintro _ wq1 ⟨rfl, H2⟩
  replace H2 : S wq1 [Old w no] := H0.absorb (new := []) H2
  refine b_ret rfl rfl ?_
  refine l_of (s_val (v := .int .i64 ((powerV c))) (wt0 rfl) rfl rfl (x_assign rfl rfl) ?_)
  refine g_nil ?_
  refine g_then ?_
  refine g_seq ?_
  refine g_region ?_
  refine l_of (s_val (v := .int .i64 v) (wt0 rfl) rfl rfl (x_move rfl rfl) ?_)
  refine l_of (s_val (v := .bool (decide ((0 : Int) ≤ v))) (wt0 rfl) rfl rfl (x_bin rfl rfl rfl b_geq) ?_)
  refine l_of (s_val (v := .bool (decide ((0 : Int) ≤ v))) (wt0 rfl) rfl rfl (x_move rfl rfl) ?_)
  by_cases hb3 : (0 : Int) ≤ v
  · skip
    refine l_of (s_val (v := .int .i64 v) (wt1 rfl rfl rfl rfl (decide_eq_true hb3)) rfl rfl (x_move rfl rfl) ?_)
    refine l_of (s_val (v := .int .i64 ((h : Int))) (wt1 rfl rfl rfl rfl (decide_eq_true hb3)) rfl rfl (x_move rfl rfl) ?_)
    refine l_of (s_val (v := .bool (decide ((v : Int) ≤ (h : Int)))) (wt1 rfl rfl rfl rfl (decide_eq_true hb3)) rfl rfl (x_bin rfl rfl rfl b_leq) ?_)
    refine l_of (s_val (v := .bool (decide ((v : Int) ≤ (h : Int)))) (wt0 rfl) rfl rfl (x_pick_t rfl rfl (decide_eq_true hb3) rfl) ?_)
    refine l_of (s_val (v := .bool (decide ((v : Int) ≤ (h : Int)))) (wt0 rfl) rfl rfl (x_move rfl rfl) ?_)
    by_cases hb4 : (v : Int) ≤ (h : Int)
    · skip
      refine l_of (s_val (v := .int .i64 ((powerV c))) (wt1 rfl rfl rfl rfl (decide_eq_true hb4)) rfl rfl (x_move rfl rfl) ?_)
      refine l_of (s_val (v := .bool (decide ((0 : Int) ≤ (powerV c)))) (wt1 rfl rfl rfl rfl (decide_eq_true hb4)) rfl rfl (x_bin rfl rfl rfl b_geq) ?_)
      refine l_of (s_val (v := .bool (decide ((0 : Int) ≤ (powerV c)))) (wt0 rfl) rfl rfl (x_pick_t rfl rfl (decide_eq_true hb4) rfl) ?_)
      refine l_of (s_val (v := .bool (decide ((0 : Int) ≤ (powerV c)))) (wt0 rfl) rfl rfl (x_move rfl rfl) ?_)
      by_cases hb5 : (0 : Int) ≤ (powerV c)
      · skip
        refine l_of (s_val (v := .int .i64 v) (wt1 rfl rfl rfl rfl (decide_eq_true hb5)) rfl rfl (x_move rfl rfl) ?_)
        refine l_of (s_val (v := .int .i64 ((powerV c))) (wt1 rfl rfl rfl rfl (decide_eq_true hb5)) rfl rfl (x_move rfl rfl) ?_)
        have hpl := power_pos (c := c) (by omega)
        have hpt := tall_two (c := c) (by omega)
        refine l_of (s_val (v := .int .i64 (v + (powerV c))) (wt1 rfl rfl rfl rfl (decide_eq_true hb5)) rfl rfl (x_bin rfl rfl rfl (b_add (w64 (by omega)))) ?_)
        refine l_of (s_val (v := .int .i64 ((h : Int))) (wt1 rfl rfl rfl rfl (decide_eq_true hb5)) rfl rfl (x_move rfl rfl) ?_)
        refine l_of (s_val (v := .bool (decide ((v + (powerV c) : Int) ≤ (h : Int)))) (wt1 rfl rfl rfl rfl (decide_eq_true hb5)) rfl rfl (x_bin rfl rfl rfl b_leq) ?_)
        refine l_of (s_val (v := .bool (decide ((v + (powerV c) : Int) ≤ (h : Int)))) (wt0 rfl) rfl rfl (x_pick_t rfl rfl (decide_eq_true hb5) rfl) ?_)
        refine l_of (s_val (v := .bool (decide ((v + (powerV c) : Int) ≤ (h : Int)))) (wt0 rfl) rfl rfl (x_move rfl rfl) ?_)
        by_cases hb6 : (v + (powerV c) : Int) ≤ (h : Int)
        · skip
          refine l_of (s_val (v := .int .i64 i) (wt1 rfl rfl rfl rfl (decide_eq_true hb6)) rfl rfl (x_move rfl rfl) ?_)
          refine l_of (s_val (v := .bool (decide ((0 : Int) ≤ i))) (wt1 rfl rfl rfl rfl (decide_eq_true hb6)) rfl rfl (x_bin rfl rfl rfl b_geq) ?_)
          refine l_of (s_val (v := .bool (decide ((0 : Int) ≤ i))) (wt0 rfl) rfl rfl (x_pick_t rfl rfl (decide_eq_true hb6) rfl) ?_)
          refine l_of (s_val (v := .bool (decide ((0 : Int) ≤ i))) (wt0 rfl) rfl rfl (x_move rfl rfl) ?_)
          by_cases hb7 : (0 : Int) ≤ i
          · skip
            refine l_of (s_val (v := .int .i64 i) (wt1 rfl rfl rfl rfl (decide_eq_true hb7)) rfl rfl (x_move rfl rfl) ?_)
            refine l_of (s_val (v := .int .i64 ((h : Int))) (wt1 rfl rfl rfl rfl (decide_eq_true hb7)) rfl rfl (x_move rfl rfl) ?_)
            refine l_of (s_val (v := .int .i64 v) (wt1 rfl rfl rfl rfl (decide_eq_true hb7)) rfl rfl (x_move rfl rfl) ?_)
            refine l_of (s_val (v := .int .i64 ((h : Int) - v)) (wt1 rfl rfl rfl rfl (decide_eq_true hb7)) rfl rfl (x_bin rfl rfl rfl (b_sub (w64 (by omega)))) ?_)
            have e2 : h - v.toNat = ((h : Int) - v).toNat := by omega
            have htw := two_i ((h : Int) - v) (by omega) (by omega) wq1
            rw [← e2] at htw
            refine l_of (s_call (wt1 rfl rfl rfl rfl (decide_eq_true hb7)) (x_call' rfl rfl cl40) (htw) ?_)
            rintro _ wq8 ⟨rfl, H9⟩
            replace H9 : S wq8 [Old w no] := H2.absorb (new := []) H9
            refine b_ret rfl rfl ?_
            refine l_of (s_val (v := .bool (decide ((i : Int) < ((2 ^ (h - v.toNat) : Nat) : Int)))) (wt1 rfl rfl rfl rfl (decide_eq_true hb7)) rfl rfl (x_bin rfl rfl rfl b_lss) ?_)
            refine l_of (s_val (v := .bool (decide ((i : Int) < ((2 ^ (h - v.toNat) : Nat) : Int)))) (wt0 rfl) rfl rfl (x_pick_t rfl rfl (decide_eq_true hb7) rfl) ?_)
            refine l_of (s_val (v := .bool (decide ((i : Int) < ((2 ^ (h - v.toNat) : Nat) : Int)))) (wt0 rfl) rfl rfl (x_move rfl rfl) ?_)
            by_cases hb10 : (i : Int) < ((2 ^ (h - v.toNat) : Nat) : Int)
            · skip
              refine l_of (s_val (v := .int .i64 i) (wt1 rfl rfl rfl rfl (decide_eq_true hb10)) rfl rfl (x_move rfl rfl) ?_)
              refine l_of (s_val (v := .int .i64 c) (wt1 rfl rfl rfl rfl (decide_eq_true hb10)) rfl rfl (x_move rfl rfl) ?_)
              obtain ⟨pp1, pp2, pp3, pp4⟩ := power_pos (c := c) (by omega)
              refine l_of (s_val (v := .int .i64 (i % c)) (wt1 rfl rfl rfl rfl (decide_eq_true hb10)) rfl rfl (x_bin rfl rfl rfl (b_rem (by omega) (rem0 (by omega)))) ?_)
              refine l_of (s_val (v := .bool (decide ((i % c : Int) = 0))) (wt1 rfl rfl rfl rfl (decide_eq_true hb10)) rfl rfl (x_bin rfl rfl rfl b_eql) ?_)
              refine l_of (s_val (v := .bool (decide ((i % c : Int) = 0))) (wt0 rfl) rfl rfl (x_pick_t rfl rfl (decide_eq_true hb10) rfl) ?_)
              refine l_of (s_val (v := .bool (decide ((i % c : Int) = 0))) (wt0 rfl) rfl rfl (x_assign rfl rfl) ?_)
              refine g_nil ?_
              refine g_then ?_
              refine g_weak [(8, .bool (decide ((i % c : Int) = 0)))] ⟨rfl, trivial⟩ ?_
              refine g_ret ?_
              refine fin_ret [.tmp 8] [.bool (decide ((i % c : Int) = 0))] rfl ⟨rfl, trivial⟩ ?_
              exact ⟨by rw [show rightB h v i c = decide (i % c = 0) from by unfold rightB; rw [decide_eq_decide]; omega]; rfl, H9.mask [true]⟩
            · skip
              refine l_of (s_not (wn1 rfl rfl rfl rfl (decide_eq_false hb10)) rfl rfl ?_)
              refine l_of (s_not (wn1 rfl rfl rfl rfl (decide_eq_false hb10)) rfl rfl ?_)
              refine l_of (s_not (wn1 rfl rfl rfl rfl (decide_eq_false hb10)) rfl rfl ?_)
              refine l_of (s_not (wn1 rfl rfl rfl rfl (decide_eq_false hb10)) rfl rfl ?_)
              refine l_of (s_val (v := .bool false) (wt0 rfl) rfl rfl (x_pick_f rfl rfl (decide_eq_false hb10) rfl) ?_)
              refine l_of (s_val (v := .bool false) (wt0 rfl) rfl rfl (x_assign rfl rfl) ?_)
              refine g_nil ?_
              refine g_then ?_
              refine g_weak [(8, .bool false)] ⟨rfl, trivial⟩ ?_
              refine g_ret ?_
              refine fin_ret [.tmp 8] [.bool false] rfl ⟨rfl, trivial⟩ ?_
              exact ⟨by rw [show rightB h v i c = false from decide_eq_false (fun hh => by omega)]; rfl, H9.mask [true]⟩
          · skip
            refine l_of (s_not (wn1 rfl rfl rfl rfl (decide_eq_false hb7)) rfl rfl ?_)
            refine l_of (s_not (wn1 rfl rfl rfl rfl (decide_eq_false hb7)) rfl rfl ?_)
            refine l_of (s_not (wn1 rfl rfl rfl rfl (decide_eq_false hb7)) rfl rfl ?_)
            refine l_of (s_not (wn1 rfl rfl rfl rfl (decide_eq_false hb7)) rfl rfl ?_)
            refine l_of (s_not (wn1 rfl rfl rfl rfl (decide_eq_false hb7)) rfl rfl ?_)
            refine l_of (s_not (wn1 rfl rfl rfl rfl (decide_eq_false hb7)) rfl rfl ?_)
            refine l_of (s_val (v := .bool false) (wt0 rfl) rfl rfl (x_pick_f rfl rfl (decide_eq_false hb7) rfl) ?_)
            refine l_of (s_val (v := .bool false) (wt0 rfl) rfl rfl (x_move rfl rfl) ?_)
            refine l_of (s_not (wn1 rfl rfl rfl rfl rfl) rfl rfl ?_)
            refine l_of (s_not (wn1 rfl rfl rfl rfl rfl) rfl rfl ?_)
            refine l_of (s_not (wn1 rfl rfl rfl rfl rfl) rfl rfl ?_)
            refine l_of (s_not (wn1 rfl rfl rfl rfl rfl) rfl rfl ?_)
            refine l_of (s_val (v := .bool false) (wt0 rfl) rfl rfl (x_pick_f rfl rfl rfl rfl) ?_)
            refine l_of (s_val (v := .bool false) (wt0 rfl) rfl rfl (x_assign rfl rfl) ?_)
            refine g_nil ?_
            refine g_then ?_
            refine g_weak [(8, .bool false)] ⟨rfl, trivial⟩ ?_
            refine g_ret ?_
            refine fin_ret [.tmp 8] [.bool false] rfl ⟨rfl, trivial⟩ ?_
            exact ⟨by rw [show rightB h v i c = false from decide_eq_false (fun hh => by omega)]; rfl, H2.mask [true]⟩
        · skip
          refine l_of (s_not (wn1 rfl rfl rfl rfl (decide_eq_false hb6)) rfl rfl ?_)
          refine l_of (s_not (wn1 rfl rfl rfl rfl (decide_eq_false hb6)) rfl rfl ?_)
          refine l_of (s_val (v := .bool false) (wt0 rfl) rfl rfl (x_pick_f rfl rfl (decide_eq_false hb6) rfl) ?_)
          refine l_of (s_val (v := .bool false) (wt0 rfl) rfl rfl (x_move rfl rfl) ?_)
          refine l_of (s_not (wn1 rfl rfl rfl rfl rfl) rfl rfl ?_)
          refine l_of (s_not (wn1 rfl rfl rfl rfl rfl) rfl rfl ?_)
          refine l_of (s_not (wn1 rfl rfl rfl rfl rfl) rfl rfl ?_)
          refine l_of (s_not (wn1 rfl rfl rfl rfl rfl) rfl rfl ?_)
          refine l_of (s_not (wn1 rfl rfl rfl rfl rfl) rfl rfl ?_)
          refine l_of (s_not (wn1 rfl rfl rfl rfl rfl) rfl rfl ?_)
          refine l_of (s_val (v := .bool false) (wt0 rfl) rfl rfl (x_pick_f rfl rfl rfl rfl) ?_)
          refine l_of (s_val (v := .bool false) (wt0 rfl) rfl rfl (x_move rfl rfl) ?_)
          refine l_of (s_not (wn1 rfl rfl rfl rfl rfl) rfl rfl ?_)
          refine l_of (s_not (wn1 rfl rfl rfl rfl rfl) rfl rfl ?_)
          refine l_of (s_not (wn1 rfl rfl rfl rfl rfl) rfl rfl ?_)
          refine l_of (s_not (wn1 rfl rfl rfl rfl rfl) rfl rfl ?_)
          refine l_of (s_val (v := .bool false) (wt0 rfl) rfl rfl (x_pick_f rfl rfl rfl rfl) ?_)
          refine l_of (s_val (v := .bool false) (wt0 rfl) rfl rfl (x_assign rfl rfl) ?_)
          refine g_nil ?_
          refine g_then ?_
          refine g_weak [(8, .bool false)] ⟨rfl, trivial⟩ ?_
          refine g_ret ?_
          refine fin_ret [.tmp 8] [.bool false] rfl ⟨rfl, trivial⟩ ?_
          exact ⟨by rw [show rightB h v i c = false from decide_eq_false (fun hh => by omega)]; rfl, H2.mask [true]⟩
      · skip
        refine l_of (s_not (wn1 rfl rfl rfl rfl (decide_eq_false hb5)) rfl rfl ?_)
        refine l_of (s_not (wn1 rfl rfl rfl rfl (decide_eq_false hb5)) rfl rfl ?_)
        refine l_of (s_not (wn1 rfl rfl rfl rfl (decide_eq_false hb5)) rfl rfl ?_)
        refine l_of (s_not (wn1 rfl rfl rfl rfl (decide_eq_false hb5)) rfl rfl ?_)
        refine l_of (s_not (wn1 rfl rfl rfl rfl (decide_eq_false hb5)) rfl rfl ?_)
        refine l_of (s_val (v := .bool false) (wt0 rfl) rfl rfl (x_pick_f rfl rfl (decide_eq_false hb5) rfl) ?_)
        refine l_of (s_val (v := .bool false) (wt0 rfl) rfl rfl (x_move rfl rfl) ?_)
        refine l_of (s_not (wn1 rfl rfl rfl rfl rfl) rfl rfl ?_)
        refine l_of (s_not (wn1 rfl rfl rfl rfl rfl) rfl rfl ?_)
        refine l_of (s_val (v := .bool false) (wt0 rfl) rfl rfl (x_pick_f rfl rfl rfl rfl) ?_)
        refine l_of (s_val (v := .bool false) (wt0 rfl) rfl rfl (x_move rfl rfl) ?_)
        refine l_of (s_not (wn1 rfl rfl rfl rfl rfl) rfl rfl ?_)
        refine l_of (s_not (wn1 rfl rfl rfl rfl rfl) rfl rfl ?_)
        refine l_of (s_not (wn1 rfl rfl rfl rfl rfl) rfl rfl ?_)
        refine l_of (s_not (wn1 rfl rfl rfl rfl rfl) rfl rfl ?_)
        refine l_of (s_not (wn1 rfl rfl rfl rfl rfl) rfl rfl ?_)
        refine l_of (s_not (wn1 rfl rfl rfl rfl rfl) rfl rfl ?_)
        refine l_of (s_val (v := .bool false) (wt0 rfl) rfl rfl (x_pick_f rfl rfl rfl rfl) ?_)
        refine l_of (s_val (v := .bool false) (wt0 rfl) rfl rfl (x_move rfl rfl) ?_)
        refine l_of (s_not (wn1 rfl rfl rfl rfl rfl) rfl rfl ?_)
        refine l_of (s_not (wn1 rfl rfl rfl rfl rfl) rfl rfl ?_)
        refine l_of (s_not (wn1 rfl rfl rfl rfl rfl) rfl rfl ?_)
        refine l_of (s_not (wn1 rfl rfl rfl rfl rfl) rfl rfl ?_)
        refine l_of (s_val (v := .bool false) (wt0 rfl) rfl rfl (x_pick_f rfl rfl rfl rfl) ?_)
        refine l_of (s_val (v := .bool false) (wt0 rfl) rfl rfl (x_assign rfl rfl) ?_)
        refine g_nil ?_
        refine g_then ?_
        refine g_weak [(8, .bool false)] ⟨rfl, trivial⟩ ?_
        refine g_ret ?_
        refine fin_ret [.tmp 8] [.bool false] rfl ⟨rfl, trivial⟩ ?_
        exact ⟨by rw [show rightB h v i c = false from decide_eq_false (fun hh => by omega)]; rfl, H2.mask [true]⟩
    · skip
      refine l_of (s_not (wn1 rfl rfl rfl rfl (decide_eq_false hb4)) rfl rfl ?_)
      refine l_of (s_not (wn1 rfl rfl rfl rfl (decide_eq_false hb4)) rfl rfl ?_)
      refine l_of (s_val (v := .bool false) (wt0 rfl) rfl rfl (x_pick_f rfl rfl (decide_eq_false hb4) rfl) ?_)
      refine l_of (s_val (v := .bool false) (wt0 rfl) rfl rfl (x_move rfl rfl) ?_)
      refine l_of (s_not (wn1 rfl rfl rfl rfl rfl) rfl rfl ?_)
      refine l_of (s_not (wn1 rfl rfl rfl rfl rfl) rfl rfl ?_)
      refine l_of (s_not (wn1 rfl rfl rfl rfl rfl) rfl rfl ?_)
      refine l_of (s_not (wn1 rfl rfl rfl rfl rfl) rfl rfl ?_)
      refine l_of (s_not (wn1 rfl rfl rfl rfl rfl) rfl rfl ?_)
      refine l_of (s_val (v := .bool false) (wt0 rfl) rfl rfl (x_pick_f rfl rfl rfl rfl) ?_)
      refine l_of (s_val (v := .bool false) (wt0 rfl) rfl rfl (x_move rfl rfl) ?_)
      refine l_of (s_not (wn1 rfl rfl rfl rfl rfl) rfl rfl ?_)
      refine l_of (s_not (wn1 rfl rfl rfl rfl rfl) rfl rfl ?_)
      refine l_of (s_val (v := .bool false) (wt0 rfl) rfl rfl (x_pick_f rfl rfl rfl rfl) ?_)
      refine l_of (s_val (v := .bool false) (wt0 rfl) rfl rfl (x_move rfl rfl) ?_)
      refine l_of (s_not (wn1 rfl rfl rfl rfl rfl) rfl rfl ?_)
      refine l_of (s_not (wn1 rfl rfl rfl rfl rfl) rfl rfl ?_)
      refine l_of (s_not (wn1 rfl rfl rfl rfl rfl) rfl rfl ?_)
      refine l_of (s_not (wn1 rfl rfl rfl rfl rfl) rfl rfl ?_)
      refine l_of (s_not (wn1 rfl rfl rfl rfl rfl) rfl rfl ?_)
      refine l_of (s_not (wn1 rfl rfl rfl rfl rfl) rfl rfl ?_)
      refine l_of (s_val (v := .bool false) (wt0 rfl) rfl rfl (x_pick_f rfl rfl rfl rfl) ?_)
      refine l_of (s_val (v := .bool false) (wt0 rfl) rfl rfl (x_move rfl rfl) ?_)
      refine l_of (s_not (wn1 rfl rfl rfl rfl rfl) rfl rfl ?_)
      refine l_of (s_not (wn1 rfl rfl rfl rfl rfl) rfl rfl ?_)
      refine l_of (s_not (wn1 rfl rfl rfl rfl rfl) rfl rfl ?_)
      refine l_of (s_not (wn1 rfl rfl rfl rfl rfl) rfl rfl ?_)
      refine l_of (s_val (v := .bool false) (wt0 rfl) rfl rfl (x_pick_f rfl rfl rfl rfl) ?_)
      refine l_of (s_val (v := .bool false) (wt0 rfl) rfl rfl (x_assign rfl rfl) ?_)
      refine g_nil ?_
      refine g_then ?_
      refine g_weak [(8, .bool false)] ⟨rfl, trivial⟩ ?_
      refine g_ret ?_
      refine fin_ret [.tmp 8] [.bool false] rfl ⟨rfl, trivial⟩ ?_
      exact ⟨by rw [show rightB h v i c = false from decide_eq_false (fun hh => by omega)]; rfl, H2.mask [true]⟩
  · skip
    refine l_of (s_not (wn1 rfl rfl rfl rfl (decide_eq_false hb3)) rfl rfl ?_)
    refine l_of (s_not (wn1 rfl rfl rfl rfl (decide_eq_false hb3)) rfl rfl ?_)
    refine l_of (s_not (wn1 rfl rfl rfl rfl (decide_eq_false hb3)) rfl rfl ?_)
    refine l_of (s_val (v := .bool false) (wt0 rfl) rfl rfl (x_pick_f rfl rfl (decide_eq_false hb3) rfl) ?_)
    refine l_of (s_val (v := .bool false) (wt0 rfl) rfl rfl (x_move rfl rfl) ?_)
    refine l_of (s_not (wn1 rfl rfl rfl rfl rfl) rfl rfl ?_)
    refine l_of (s_not (wn1 rfl rfl rfl rfl rfl) rfl rfl ?_)
    refine l_of (s_val (v := .bool false) (wt0 rfl) rfl rfl (x_pick_f rfl rfl rfl rfl) ?_)
    refine l_of (s_val (v := .bool false) (wt0 rfl) rfl rfl (x_move rfl rfl) ?_)
    refine l_of (s_not (wn1 rfl rfl rfl rfl rfl) rfl rfl ?_)
    refine l_of (s_not (wn1 rfl rfl rfl rfl rfl) rfl rfl ?_)
    refine l_of (s_not (wn1 rfl rfl rfl rfl rfl) rfl rfl ?_)
    refine l_of (s_not (wn1 rfl rfl rfl rfl rfl) rfl rfl ?_)
    refine l_of (s_not (wn1 rfl rfl rfl rfl rfl) rfl rfl ?_)
    refine l_of (s_val (v := .bool false) (wt0 rfl) rfl rfl (x_pick_f rfl rfl rfl rfl) ?_)
    refine l_of (s_val (v := .bool false) (wt0 rfl) rfl rfl (x_move rfl rfl) ?_)
    refine l_of (s_not (wn1 rfl rfl rfl rfl rfl) rfl rfl ?_)
    refine l_of (s_not (wn1 rfl rfl rfl rfl rfl) rfl rfl ?_)
    refine l_of (s_val (v := .bool false) (wt0 rfl) rfl rfl (x_pick_f rfl rfl rfl rfl) ?_)
    refine l_of (s_val (v := .bool false) (wt0 rfl) rfl rfl (x_move rfl rfl) ?_)
    refine l_of (s_not (wn1 rfl rfl rfl rfl rfl) rfl rfl ?_)
    refine l_of (s_not (wn1 rfl rfl rfl rfl rfl) rfl rfl ?_)
    refine l_of (s_not (wn1 rfl rfl rfl rfl rfl) rfl rfl ?_)
    refine l_of (s_not (wn1 rfl rfl rfl rfl rfl) rfl rfl ?_)
    refine l_of (s_not (wn1 rfl rfl rfl rfl rfl) rfl rfl ?_)
    refine l_of (s_not (wn1 rfl rfl rfl rfl rfl) rfl rfl ?_)
    refine l_of (s_val (v := .bool false) (wt0 rfl) rfl rfl (x_pick_f rfl rfl rfl rfl) ?_)
    refine l_of (s_val (v := .bool false) (wt0 rfl) rfl rfl (x_move rfl rfl) ?_)
    refine l_of (s_not (wn1 rfl rfl rfl rfl rfl) rfl rfl ?_)
    refine l_of (s_not (wn1 rfl rfl rfl rfl rfl) rfl rfl ?_)
    refine l_of (s_not (wn1 rfl rfl rfl rfl rfl) rfl rfl ?_)
    refine l_of (s_not (wn1 rfl rfl rfl rfl rfl) rfl rfl ?_)
    refine l_of (s_val (v := .bool false) (wt0 rfl) rfl rfl (x_pick_f rfl rfl rfl rfl) ?_)
    refine l_of (s_val (v := .bool false) (wt0 rfl) rfl rfl (x_assign rfl rfl) ?_)
    refine g_nil ?_
    refine g_then ?_
    refine g_weak [(8, .bool false)] ⟨rfl, trivial⟩ ?_
    refine g_ret ?_
    refine fin_ret [.tmp 8] [.bool false] rfl ⟨rfl, trivial⟩ ?_
    exact ⟨by rw [show rightB h v i c = false from decide_eq_false (fun hh => by omega)]; rfl, H2.mask [true]⟩
set_option maxRecDepth 20000 in
set_option maxHeartbeats 4000000 in
set_option maxRecDepth 20000 in
set_option maxHeartbeats 4000000 in
theorem run_s (x : Int) (h : Nat) (v i c : Int) (hh : h ≤ 12) (hc : c < 9223372036854775808) (w : World) : Calls Tryz.prog 59 #[.agg #[.int .i64 x, .int .i64 ((h : Int))], .int .i64 v, .int .i64 i, .int .i64 c] w fun e w' => e = runV h v i c ∧ S w' [Old w no] := by
  have H0 := S.old w
  refine enter 44 Tryz.func59 rfl rfl rfl ?_
  refine g_weak [(0, .agg #[.int .i64 x, .int .i64 ((h : Int))]), (1, .int .i64 v), (2, .int .i64 i), (3, .int .i64 c)] ⟨rfl, rfl, rfl, rfl, trivial⟩ ?_
  refine g_seq ?_
  refine g_region ?_
  refine l_of (s_box H0 (wt0 rfl) rfl rfl rfl rfl ?_)
  intro g1 wq2 H3
  refine l_of (s_val (v := .int .i64 0) (wt0 rfl) rfl rfl (x_assign rfl rfl) ?_)
  refine g_nil ?_
  refine g_then ?_
  refine g_seq ?_
  refine g_region ?_
  refine l_of (s_val (v := .agg #[.int .i64 x, .int .i64 ((h : Int))]) (wt0 rfl) rfl rfl (x_loadA H3 0 rfl rfl Tryz.underlying65 rfl sz65 rfl rfl rfl) ?_)
  refine l_of (s_val (v := .int .i64 v) (wt0 rfl) rfl rfl (x_move rfl rfl) ?_)
  refine l_of (s_val (v := .int .i64 i) (wt0 rfl) rfl rfl (x_move rfl rfl) ?_)
  refine l_of (s_call (wt0 rfl) (x_call' rfl rfl cl55) (fnode_s _ h v i (by omega) _) ?_)
  rintro _ wq4 ⟨rfl, H5⟩
  replace H5 : S wq4 [Ob g1 (.cells #[.int .i64 x, .int .i64 ((h : Int))] 65 (0, 0)), Old w no] := H3.absorb (new := []) H5
  by_cases hno : nodeOk h v i = true
  · skip
    rw [show nodeV h v i = .returned (.tuple #[]) from if_pos hno]
    obtain ⟨o1, o2, o3, o4⟩ := nodeOk_s hno
    have h4096 : 2 ^ (h - v.toNat) ≤ 4096 := Nat.pow_le_pow_right (by omega) (show h - v.toNat ≤ 12 by omega)
    refine b_ret rfl rfl ?_
    refine g_nil ?_
    refine g_then ?_
    refine g_seq ?_
    refine g_region ?_
    refine l_of (s_val (v := .int .i64 c) (wt0 rfl) rfl rfl (x_move rfl rfl) ?_)
    refine l_of (s_val (v := .bool (decide ((c : Int) < 1))) (wt0 rfl) rfl rfl (x_bin rfl rfl rfl b_lss) ?_)
    refine l_of (s_val (v := .bool (decide ((c : Int) < 1))) (wt0 rfl) rfl rfl (x_move rfl rfl) ?_)
    by_cases hb6 : (c : Int) < 1
    · skip
      refine l_of (s_not (wn1 rfl rfl rfl rfl (decide_eq_true hb6)) rfl rfl ?_)
      refine l_of (s_not (wn1 rfl rfl rfl rfl (decide_eq_true hb6)) rfl rfl ?_)
      refine l_of (s_not (wn1 rfl rfl rfl rfl (decide_eq_true hb6)) rfl rfl ?_)
      refine l_of (s_not (wn1 rfl rfl rfl rfl (decide_eq_true hb6)) rfl rfl ?_)
      refine l_of (s_not (wn1 rfl rfl rfl rfl (decide_eq_true hb6)) rfl rfl ?_)
      refine l_of (s_val (v := .bool true) (wt0 rfl) rfl rfl (x_pick_t rfl rfl (decide_eq_true hb6) rfl) ?_)
      refine l_of (s_val (v := .bool true) (wt0 rfl) rfl rfl (x_move rfl rfl) ?_)
      refine l_of (s_not (wn1 rfl rfl rfl rfl rfl) rfl rfl ?_)
      refine l_of (s_not (wn1 rfl rfl rfl rfl rfl) rfl rfl ?_)
      refine l_of (s_not (wn1 rfl rfl rfl rfl rfl) rfl rfl ?_)
      refine l_of (s_not (wn1 rfl rfl rfl rfl rfl) rfl rfl ?_)
      refine l_of (s_not (wn1 rfl rfl rfl rfl rfl) rfl rfl ?_)
      refine l_of (s_val (v := .bool true) (wt0 rfl) rfl rfl (x_pick_t rfl rfl rfl rfl) ?_)
      refine l_of (s_val (v := .bool true) (wt0 rfl) rfl rfl (x_move rfl rfl) ?_)
      refine l_of (s_not (wn1 rfl rfl rfl rfl rfl) rfl rfl ?_)
      refine l_of (s_not (wn1 rfl rfl rfl rfl rfl) rfl rfl ?_)
      refine l_of (s_not (wn1 rfl rfl rfl rfl rfl) rfl rfl ?_)
      refine l_of (s_not (wn1 rfl rfl rfl rfl rfl) rfl rfl ?_)
      refine l_of (s_val (v := .bool true) (wt0 rfl) rfl rfl (x_pick_t rfl rfl rfl rfl) ?_)
      refine l_of (s_call (wt0 rfl) (x_call' rfl rfl cl36) (fail_p _ _ rfl _) ?_)
      rintro _ wq7 ⟨rfl, H8⟩
      replace H8 : S wq7 [Ob g1 (.cells #[.int .i64 x, .int .i64 ((h : Int))] 65 (0, 0)), Old w no] := H5.absorb (new := []) H8
      refine b_panic ?_
      refine g_then_panic ?_
      refine fin_panic ?_
      exact ⟨by unfold runV; rw [if_neg (by rw [right_f hh (.inr (.inl hb6))]; exact Bool.false_ne_true)], H8.mask [false, true]⟩
    · skip
      refine l_of (s_val (v := .int .i64 c) (wt1 rfl rfl rfl rfl (decide_eq_false hb6)) rfl rfl (x_move rfl rfl) ?_)
      refine l_of (s_val (v := .int .i64 c) (wt1 rfl rfl rfl rfl (decide_eq_false hb6)) rfl rfl (x_move rfl rfl) ?_)
      refine l_of (s_val (v := .int .i64 (c - 1)) (wt1 rfl rfl rfl rfl (decide_eq_false hb6)) rfl rfl (x_bin rfl rfl rfl (b_sub (w64 (by omega)))) ?_)
      refine l_of (s_val (v := .int .i64 (((c.toNat &&& (c - 1).toNat : Nat) : Int))) (wt1 rfl rfl rfl rfl (decide_eq_false hb6)) rfl rfl (x_bin rfl rfl rfl (b_andI (a := c) (b := c - 1) (by omega))) ?_)
      refine l_of (s_val (v := .bool (!decide ((((c.toNat &&& (c - 1).toNat : Nat) : Int) : Int) = 0))) (wt1 rfl rfl rfl rfl (decide_eq_false hb6)) rfl rfl (x_bin rfl rfl rfl b_neq) ?_)
      refine l_of (s_val (v := .bool (!decide ((((c.toNat &&& (c - 1).toNat : Nat) : Int) : Int) = 0))) (wt0 rfl) rfl rfl (x_pick_f rfl rfl (decide_eq_false hb6) rfl) ?_)
      refine l_of (s_val (v := .bool (!decide ((((c.toNat &&& (c - 1).toNat : Nat) : Int) : Int) = 0))) (wt0 rfl) rfl rfl (x_move rfl rfl) ?_)
      by_cases hb9 : (((c.toNat &&& (c - 1).toNat : Nat) : Int) : Int) = 0
      · skip
        refine l_of (s_val (v := .int .i64 c) (wt1 rfl rfl rfl rfl (nf hb9)) rfl rfl (x_move rfl rfl) ?_)
        refine l_of (s_val (v := .agg #[.int .i64 x, .int .i64 ((h : Int))]) (wt1 rfl rfl rfl rfl (nf hb9)) rfl rfl (x_loadA H5 0 rfl rfl Tryz.underlying65 rfl sz65 rfl rfl rfl) ?_)
        refine l_of (s_val (v := .int .i64 v) (wt1 rfl rfl rfl rfl (nf hb9)) rfl rfl (x_move rfl rfl) ?_)
        refine l_of (s_call (wt1 rfl rfl rfl rfl (nf hb9)) (x_call' rfl rfl cl78) (width_i _ _ _ (by omega) (by omega) (by omega) _) ?_)
        rintro _ wq10 ⟨rfl, H11⟩
        replace H11 : S wq10 [Ob g1 (.cells #[.int .i64 x, .int .i64 ((h : Int))] 65 (0, 0)), Old w no] := H5.absorb (new := []) H11
        refine b_ret rfl rfl ?_
        refine l_of (s_val (v := .bool (decide ((((2 ^ (h - v.toNat) : Nat) : Int) : Int) < c))) (wt1 rfl rfl rfl rfl (nf hb9)) rfl rfl (x_bin rfl rfl rfl b_gtr) ?_)
        refine l_of (s_val (v := .bool (decide ((((2 ^ (h - v.toNat) : Nat) : Int) : Int) < c))) (wt0 rfl) rfl rfl (x_pick_f rfl rfl (nf hb9) rfl) ?_)
        refine l_of (s_val (v := .bool (decide ((((2 ^ (h - v.toNat) : Nat) : Int) : Int) < c))) (wt0 rfl) rfl rfl (x_move rfl rfl) ?_)
        by_cases hb12 : (((2 ^ (h - v.toNat) : Nat) : Int) : Int) < c
        · skip
          refine l_of (s_not (wn1 rfl rfl rfl rfl (decide_eq_true hb12)) rfl rfl ?_)
          refine l_of (s_not (wn1 rfl rfl rfl rfl (decide_eq_true hb12)) rfl rfl ?_)
          refine l_of (s_not (wn1 rfl rfl rfl rfl (decide_eq_true hb12)) rfl rfl ?_)
          refine l_of (s_not (wn1 rfl rfl rfl rfl (decide_eq_true hb12)) rfl rfl ?_)
          refine l_of (s_val (v := .bool true) (wt0 rfl) rfl rfl (x_pick_t rfl rfl (decide_eq_true hb12) rfl) ?_)
          refine l_of (s_call (wt0 rfl) (x_call' rfl rfl cl36) (fail_p _ _ rfl _) ?_)
          rintro _ wq13 ⟨rfl, H14⟩
          replace H14 : S wq13 [Ob g1 (.cells #[.int .i64 x, .int .i64 ((h : Int))] 65 (0, 0)), Old w no] := H11.absorb (new := []) H14
          refine b_panic ?_
          refine g_then_panic ?_
          refine fin_panic ?_
          exact ⟨by unfold runV; rw [if_neg (by rw [right_f hh (.inr (.inr (.inr (.inl hb12))))]; exact Bool.false_ne_true)], H14.mask [false, true]⟩
        · skip
          refine l_of (s_val (v := .int .i64 i) (wt1 rfl rfl rfl rfl (decide_eq_false hb12)) rfl rfl (x_move rfl rfl) ?_)
          refine l_of (s_val (v := .int .i64 c) (wt1 rfl rfl rfl rfl (decide_eq_false hb12)) rfl rfl (x_move rfl rfl) ?_)
          refine l_of (s_val (v := .int .i64 (i % c)) (wt1 rfl rfl rfl rfl (decide_eq_false hb12)) rfl rfl (x_bin rfl rfl rfl (b_rem (by omega) (rem0 (by omega)))) ?_)
          refine l_of (s_val (v := .bool (!decide ((i % c : Int) = 0))) (wt1 rfl rfl rfl rfl (decide_eq_false hb12)) rfl rfl (x_bin rfl rfl rfl b_neq) ?_)
          refine l_of (s_val (v := .bool (!decide ((i % c : Int) = 0))) (wt0 rfl) rfl rfl (x_pick_f rfl rfl (decide_eq_false hb12) rfl) ?_)
          by_cases hb15 : (i % c : Int) = 0
          · skip
            refine l_of (s_call (wt0 rfl) (x_call' rfl rfl cl36) (fail_r _ _ (nf hb15) _) ?_)
            rintro _ wq16 ⟨rfl, H17⟩
            replace H17 : S wq16 [Ob g1 (.cells #[.int .i64 x, .int .i64 ((h : Int))] 65 (0, 0)), Old w no] := H11.absorb (new := []) H17
            refine b_ret rfl rfl ?_
            refine g_nil ?_
            refine g_then ?_
            refine g_weak [(3, .int .i64 c)] ⟨rfl, trivial⟩ ?_
            refine g_seq ?_
            refine g_region ?_
            refine l_of (s_val (v := .int .i64 0) (wt0 rfl) rfl rfl (x_assign rfl rfl) ?_)
            refine g_nil ?_
            refine g_then ?_
            refine g_seq ?_
            refine g_block ?_
            refine g_loop (ι := Nat) (fun k => [(3, .int .i64 c), (9, .int .i64 ((k : Int)))]) (fun k wx => (k ≤ tallN c.toNat) ∧ (∀ j, j < k → 2 ^ j < c.toNat) ∧ S wx [Ob g1 (.cells #[.int .i64 x, .int .i64 ((h : Int))] 65 (0, 0)), Old w no]) (fun k => tallN c.toNat - k) (0) ⟨rfl, rfl, trivial⟩ ⟨Nat.zero_le _, (fun j h => by omega), H17⟩ ?_
            rintro k wq18 ⟨hk, hlt, H19⟩
            replace H19 : S wq18 [Ob g1 (.cells #[.int .i64 x, .int .i64 ((h : Int))] 65 (0, 0)), Old w no] := H19
            refine g_weak [(3, .int .i64 c), (9, .int .i64 ((k : Int)))] ⟨rfl, rfl, trivial⟩ ?_
            have ht12 := tall_two (c := c) (by omega)
            refine g_seq ?_
            refine g_seq ?_
            refine g_region ?_
            refine l_of (s_val (v := .int .i64 ((k : Int))) (wt0 rfl) rfl rfl (x_move rfl rfl) ?_)
            refine l_of (s_val (v := .int .i64 (((2 ^ k : Nat) : Int))) (wt0 rfl) rfl rfl (x_bin rfl rfl rfl (b_shl1 (h := k) (by omega))) ?_)
            refine l_of (s_val (v := .int .i64 c) (wt0 rfl) rfl rfl (x_move rfl rfl) ?_)
            refine l_of (s_val (v := .bool (decide ((((2 ^ k : Nat) : Int) : Int) < c))) (wt0 rfl) rfl rfl (x_bin rfl rfl rfl b_lss) ?_)
            refine g_nil ?_
            refine g_then ?_
            by_cases hb20 : (((2 ^ k : Nat) : Int) : Int) < c
            · skip
              refine g_cond_t rfl (decide_eq_true hb20) ?_
              refine g_skip ?_
              refine g_then ?_
              refine g_block ?_
              refine g_region ?_
              refine l_of (s_val (v := .int .i64 ((k : Int))) (wt0 rfl) rfl rfl (x_move rfl rfl) ?_)
              refine l_of (s_val (v := .int .i64 ((k : Int) + 1)) (wt0 rfl) rfl rfl (x_bin rfl rfl rfl (b_add (w64 (by omega)))) ?_)
              refine l_of (s_val (v := .int .i64 ((k : Int) + 1)) (wt0 rfl) rfl rfl (x_assign rfl rfl) ?_)
              refine g_nil ?_
              refine g_in ?_
              refine g_then ?_
              have htn := tall_next (n := c.toNat) (by omega) hk (by have := hb20; omega)
              refine g_round (i := (k)) (k + 1) ?_ ?_ ?_
              · exact ⟨rfl, rfl, trivial⟩
              · exact ⟨by omega, (fun j h => by rcases Nat.lt_succ_iff_lt_or_eq.1 h with h | rfl; exact hlt j h; have := hb20; omega), H19⟩
              · (try dsimp only); omega
            · skip
              refine g_cond_f rfl (decide_eq_false hb20) ?_
              refine g_exit ?_
              refine g_then_exit ?_
              refine g_then_exit ?_
              refine g_in_hit ?_
              refine g_then ?_
              refine g_seq ?_
              refine g_region ?_
              refine l_of (s_val (v := .int .i64 ((k : Int))) (wt0 rfl) rfl rfl (x_move rfl rfl) ?_)
              refine l_of (s_val (v := .int .i64 ((k : Int))) (wt0 rfl) rfl rfl (x_assign rfl rfl) ?_)
              refine g_nil ?_
              refine g_then ?_
              refine g_ret ?_
              refine fin_ret [.tmp 8] [.int .i64 ((k : Int))] rfl ⟨rfl, trivial⟩ ?_
              have hst := tall_stop (n := c.toNat) (by omega) hk (by have := hb20; omega)
              subst hst
              exact ⟨by unfold runV; rw [if_pos (right_t hh hno (by omega) (by omega) (by omega) hb15)]; rfl, H19.mask [false, true]⟩
          · skip
            refine l_of (s_call (wt0 rfl) (x_call' rfl rfl cl36) (fail_p _ _ (nt hb15) _) ?_)
            rintro _ wq21 ⟨rfl, H22⟩
            replace H22 : S wq21 [Ob g1 (.cells #[.int .i64 x, .int .i64 ((h : Int))] 65 (0, 0)), Old w no] := H11.absorb (new := []) H22
            refine b_panic ?_
            refine g_then_panic ?_
            refine fin_panic ?_
            exact ⟨by unfold runV; rw [if_neg (by rw [right_f hh (.inr (.inr (.inr (.inr hb15))))]; exact Bool.false_ne_true)], H22.mask [false, true]⟩
      · skip
        refine l_of (s_not (wn1 rfl rfl rfl rfl (nt hb9)) rfl rfl ?_)
        refine l_of (s_not (wn1 rfl rfl rfl rfl (nt hb9)) rfl rfl ?_)
        refine l_of (s_not (wn1 rfl rfl rfl rfl (nt hb9)) rfl rfl ?_)
        refine l_of (s_not (wn1 rfl rfl rfl rfl (nt hb9)) rfl rfl ?_)
        refine l_of (s_not (wn1 rfl rfl rfl rfl (nt hb9)) rfl rfl ?_)
        refine l_of (s_val (v := .bool true) (wt0 rfl) rfl rfl (x_pick_t rfl rfl (nt hb9) rfl) ?_)
        refine l_of (s_val (v := .bool true) (wt0 rfl) rfl rfl (x_move rfl rfl) ?_)
        refine l_of (s_not (wn1 rfl rfl rfl rfl rfl) rfl rfl ?_)
        refine l_of (s_not (wn1 rfl rfl rfl rfl rfl) rfl rfl ?_)
        refine l_of (s_not (wn1 rfl rfl rfl rfl rfl) rfl rfl ?_)
        refine l_of (s_not (wn1 rfl rfl rfl rfl rfl) rfl rfl ?_)
        refine l_of (s_val (v := .bool true) (wt0 rfl) rfl rfl (x_pick_t rfl rfl rfl rfl) ?_)
        refine l_of (s_call (wt0 rfl) (x_call' rfl rfl cl36) (fail_p _ _ rfl _) ?_)
        rintro _ wq23 ⟨rfl, H24⟩
        replace H24 : S wq23 [Ob g1 (.cells #[.int .i64 x, .int .i64 ((h : Int))] 65 (0, 0)), Old w no] := H5.absorb (new := []) H24
        refine b_panic ?_
        refine g_then_panic ?_
        refine fin_panic ?_
        exact ⟨by unfold runV; rw [if_neg (by rw [right_f hh (.inr (.inr (.inl (fun e => hb9 (by omega)))))]; exact Bool.false_ne_true)], H24.mask [false, true]⟩
  · skip
    rw [show nodeV h v i = .panicked [{ v := .iface 105 (.int .i64 7), recovered := false }] from if_neg hno]
    refine b_panic ?_
    refine g_then_panic ?_
    refine fin_panic ?_
    exact ⟨by unfold runV; rw [if_neg (by rw [right_f hh (.inl (by cases hq : nodeOk h v i with | false => rfl | true => exact absurd hq hno))]; exact Bool.false_ne_true)], H5.mask [false, true]⟩
end Go.Proofs.YtlajgickimgigaaGreat
namespace Go.Proofs.YtlajgickimgigaaGreat
open Go.RowKit

/-! ## The map of places, and what a proof tells, in plain words -/
theorem laid_out : laidOutB Tryz.prog = true := by kernel_rfl
theorem place_wide : (match Tryz.prog.underlying 73 with | some (.array _ _) | some (.struct _) => true | _ => false) = true := by rw [Tryz.underlying73]
set_option maxRecDepth 100000 in
theorem place_law : Go.WideMaps.KeyLaw Tryz.prog 73 := deep_law_laid laid_out (m := 2) (by omega) (of_decide_eq_true (by kernel_rfl)) (by kernel_rfl) place_wide
theorem place_lit {n : Nat} (h : n ≤ 1099511627776) : (Lit.int .i64 (n : Int)).wf = true := by
  have : -9223372036854775808 ≤ (n : Int) ∧ (n : Int) < 9223372036854775808 := by omega
  have h1 : IntKind.i64.min = -9223372036854775808 := by decide
  have h2 : IntKind.i64.max = 9223372036854775807 := by decide
  simp [Lit.wf, h1, h2]; omega
theorem cells_94 : Tryz.prog.cellsOf 73 = 2 := by kernel_rfl
theorem cells_3 : Tryz.prog.cellsOf 3 = 1 := by kernel_rfl
theorem size_s : ∃ s, Tryz.prog.types.size = s + 1 := ⟨_, (by kernel_rfl : Tryz.prog.types.size = (Tryz.prog.types.size - 1) + 1)⟩
theorem place_key {x : Nat × Nat} (h : placeOk x) : ∃ l, keyOf Tryz.prog 73 (placeV x) = some l := by
  have h1 : ∀ d (n : Nat), n ≤ 1099511627776 → Tryz.prog.keyLits (d + 1) 3 [.int .i64 (n : Int)] = some [.int .i64 (n : Int)] := fun d n hn => by
    simp [Program.keyLits, Tryz.underlying3, place_lit hn]
  obtain ⟨s, hs⟩ := size_s
  have hk : Tryz.prog.keyType 73 = true := by kernel_rfl
  unfold keyOf
  rw [Tryz.underlying73]
  simp only [hk, Bool.true_and]
  have hf : (placeV x).formed Tryz.prog 73 = true := by simp [placeV, Value.formed, Tryz.underlying73, cells_94]
  rw [if_pos hf, hs]
  simp [Program.keyLits, Tryz.underlying73, cells_94, cells_3, placeV, Value.cells, h1 _ _ h.1, h1 _ _ h.2, place_lit h.1, place_lit h.2]
theorem placeT : MapTy Tryz.prog 68 73 9 placeV placeOk := ⟨Tryz.underlying68, .of_law place_law, fun x hx => place_key hx, fun x y _ _ h => placeV_inj h⟩
abbrev PM : Type := Nat × Nat → Option ByteArray
/-- A row is laid: its first j. -/
def rowM (M : PM) (a b : Nat) (row : List ByteArray) : Nat → PM
  | 0 => M
  | j + 1 => upM (rowM M a b row j) (a, b + j) (row.getD j ⟨#[]⟩)
/-- The levels of a run are laid. -/
def lowM (v i : Nat) (l : List ByteArray) : Nat → PM
  | 0 => fun _ => none
  | j + 1 => rowM (lowM v i l j) (v + j) (i / 2 ^ j) (upN j l) (upN j l).length
/-- The root, from a run's top on. -/
def topS (b : Nat) (t0 : ByteArray) (u : List ByteArray) : Nat → ByteArray
  | 0 => t0
  | s + 1 => if b / 2 ^ s % 2 = 0 then pairS (topS b t0 u s) (u.getD s ⟨#[]⟩) else pairS (u.getD s ⟨#[]⟩) (topS b t0 u s)
def pathM (M0 : PM) (a b : Nat) (t0 : ByteArray) (u : List ByteArray) : Nat → PM
  | 0 => M0
  | s + 1 => upM (upM (pathM M0 a b t0 u s) (a + s, b / 2 ^ s ^^^ 1) (u.getD s ⟨#[]⟩)) (a + s + 1, b / 2 ^ (s + 1)) (topS b t0 u (s + 1))
theorem topS_size {b : Nat} {t0 : ByteArray} {u : List ByteArray} (h : t0.size = 32) : ∀ s, (topS b t0 u s).size = 32
  | 0 => h
  | s + 1 => by unfold topS; split <;> exact pairS_size _ _
/-- The root that a run and its uncles make. -/
def madeS (i : Nat) (l u : List ByteArray) : ByteArray := topS (i / 2 ^ tallN l.length) ((upN (tallN l.length) l).getD 0 ⟨#[]⟩) u u.length
/-- What is known then. -/
def provM (v i : Nat) (l u : List ByteArray) : PM := pathM (lowM v i l (tallN l.length + 1)) (v + tallN l.length) (i / 2 ^ tallN l.length) ((upN (tallN l.length) l).getD 0 ⟨#[]⟩) u u.length
/-- What is wrong with a proof. -/
def provE (h : Nat) (root : ByteArray) (v i : Int) (l u : List ByteArray) : Int :=
  if rightB h v i (l.length : Int) = true then (if (u.length : Int) = (h : Int) - v - ((tallN l.length : Nat) : Int) then (if madeS i.toNat l u = root then 0 else 13) else 11) else 7
theorem upN_digs {l : List ByteArray} (h : digsB l = true) (k : Nat) : digsB (upN k l) = true := by
  cases k with
  | zero => exact h
  | succ k => rw [upN_snoc]; exact upS_digs _
end Go.Proofs.YtlajgickimgigaaGreat
namespace Go.Proofs.YtlajgickimgigaaGreat
open Go.RowKit

theorem cl59 : callable Tryz.prog 59 = true := by kernel_rfl
theorem pow_one {t : Nat} (h : 2 ^ t = 1) : t = 0 := by
  rcases Nat.eq_zero_or_pos t with h1 | h1
  · exact h1
  · have : 2 ^ 1 ≤ 2 ^ t := Nat.pow_le_pow_right (by omega) h1
    omega
theorem upN_even {l : List ByteArray} {K j : Nat} (h : (upN j l).length = 2 ^ (K - j)) (h1 : ¬ ((upN j l).length : Int) = 1) : ∃ Q, (upN j l).length = 2 * Q ∧ j < K := by
  rcases Nat.eq_zero_or_pos (K - j) with e | e
  · rw [e] at h; omega
  · refine ⟨2 ^ (K - j - 1), ?_, by omega⟩
    rw [h]
    conv => lhs; rw [show K - j = (K - j - 1) + 1 from by omega, Nat.pow_succ]
    omega
theorem upN_half {l : List ByteArray} {j Q : Nat} (h : (upN j l).length = 2 * Q) : upN (j + 1) l = upTo (upN j l) Q := by
  rw [upN_snoc, ← upTo_all, h]; congr 1; omega
set_option maxRecDepth 20000 in
set_option maxHeartbeats 4000000 in
set_option maxRecDepth 20000 in
set_option maxHeartbeats 4000000 in
theorem proved_s (n0 : Int) (h : Nat) (root : ByteArray) (v i : Int) (l u : List ByteArray) (p q : Option Addr) (c d : Nat) (hh : h ≤ 12) (hdl : digsB l = true) (hdu : digsB u = true) (hm : l.length ≤ 1099511627776) (hmu : u.length ≤ 1099511627776) (w : World) (hr : Reads w p l.length c 1 (stV l)) (hu : Reads w q u.length d 1 (stV u)) :
    Calls Tryz.prog 47 #[.agg #[.int .i64 n0, .int .i64 (h : Int)], .string root, .int .i64 v, .int .i64 i, .slice p l.length c, .slice q u.length d] w fun e w' => (provE h root v i l u = 0 ∧ ∃ g, e = .returned (.map (some g)) ∧ S w' ([Mp placeV Value.string placeOk g (provM v.toNat i.toNat l u)] ++ [Old w no])) ∨ (¬ provE h root v i l u = 0 ∧ e = .panicked [{ v := .iface 105 (.int .i64 (provE h root v i l u)), recovered := false }] ∧ S w' [Old w no]) := by
  have H00 := S.old w
  have H0 := H00.nilMarks
  refine enter_m 123 Tryz.func47 rfl rfl rfl ?_
  have hL : ¬ LetsOut (bodyPostM (WF none) 9 Tryz.prog Tryz.f47 fun e w' => (provE h root v i l u = 0 ∧ ∃ g, e = .returned (.map (some g)) ∧ S w' ([Mp placeV Value.string placeOk g (provM v.toNat i.toNat l u)] ++ [Old w no])) ∨ (¬ provE h root v i l u = 0 ∧ e = .panicked [{ v := .iface 105 (.int .i64 (provE h root v i l u)), recovered := false }] ∧ S w' [Old w no])) := by
    rintro ⟨_, _, h⟩
    rcases h with ⟨_, _, h, _⟩ | ⟨_, h, _⟩ <;> cases h
  refine g_weak [(0, .agg #[.int .i64 n0, .int .i64 ((h : Int))]), (1, .string root), (2, .int .i64 v), (3, .int .i64 i), (4, .slice p l.length c), (5, .slice q u.length d)] ⟨rfl, rfl, rfl, rfl, rfl, rfl, trivial⟩ ?_
  refine R.g_seq ?_
  refine R.g_region ?_
  refine R.l_of rfl (fun h => hL h) (s_box H0 (wt0 rfl) rfl rfl rfl rfl ?_)
  intro g1 wq2 H3
  refine R.l_of rfl (fun h => hL h) (s_val (v := .map none) (wt0 rfl) rfl rfl (x_assign rfl rfl) ?_)
  refine R.g_nil ?_
  refine g_then ?_
  refine R.g_seq ?_
  refine R.g_region ?_
  refine R.l_of rfl (fun h => hL h) (s_val (v := .agg #[.int .i64 n0, .int .i64 ((h : Int))]) (wt0 rfl) rfl rfl (x_loadA H3 0 rfl rfl Tryz.underlying65 rfl sz65 rfl rfl rfl) ?_)
  refine R.l_of rfl (fun h => hL h) (s_val (v := .int .i64 v) (wt0 rfl) rfl rfl (x_move rfl rfl) ?_)
  refine R.l_of rfl (fun h => hL h) (s_val (v := .int .i64 i) (wt0 rfl) rfl rfl (x_move rfl rfl) ?_)
  refine R.l_of rfl (fun h => hL h) (s_val (v := .slice p l.length c) (wt0 rfl) rfl rfl (x_move rfl rfl) ?_)
  refine R.l_of rfl (fun h => hL h) (s_val (v := .int .i64 ((l.length : Int))) (wt0 rfl) rfl rfl (x_lenl rfl rfl Tryz.underlying22) ?_)
  refine R.l_of rfl (fun h => hL h) (s_call (wt0 rfl) (x_call' rfl rfl cl59) (run_s _ h v i (l.length : Int) hh (by omega) _) ?_)
  rintro _ wq4 ⟨rfl, H5⟩
  replace H5 : S wq4 [Ob g1 (.cells #[.int .i64 n0, .int .i64 ((h : Int))] 65 (0, 0)), Marks [], Old w no] := H3.absorb (new := []) H5
  by_cases hrt : rightB h v i (l.length : Int) = true
  · skip
    rw [show runV h v i (l.length : Int) = .returned (.int .i64 (((tallN l.length) : Nat) : Int)) from if_pos hrt]
    obtain ⟨o0, r1, _, r3, r4, r5, r6, r7, _⟩ := right_s hh hrt
    obtain ⟨o1, o2, o3, o4⟩ := nodeOk_s o0
    obtain ⟨V0, rfl⟩ : ∃ V0 : Nat, v = (V0 : Int) := ⟨v.toNat, by omega⟩
    obtain ⟨I0, rfl⟩ : ∃ I0 : Nat, i = (I0 : Int) := ⟨i.toNat, by omega⟩
    simp only [Int.toNat_natCast] at r3 r5 r6 o4
    have h4096 : 2 ^ (h - V0) ≤ 4096 := Nat.pow_le_pow_right (by omega) (show h - V0 ≤ 12 by omega)
    have hl1 : 0 < l.length := by omega
    refine b_ret rfl rfl ?_
    refine R.l_of rfl (fun h => hL h) (s_val (v := .int .i64 ((((tallN l.length) : Nat) : Int))) (wt0 rfl) rfl rfl (x_assign rfl rfl) ?_)
    refine R.g_nil ?_
    refine g_then ?_
    refine R.g_seq ?_
    refine R.g_region ?_
    refine R.l_of rfl (fun h => hL h) (s_val (v := .slice q u.length d) (wt0 rfl) rfl rfl (x_move rfl rfl) ?_)
    refine R.l_of rfl (fun h => hL h) (s_val (v := .int .i64 ((u.length : Int))) (wt0 rfl) rfl rfl (x_lenl rfl rfl Tryz.underlying22) ?_)
    refine R.l_of rfl (fun h => hL h) (s_val (v := .pointer (some ⟨g1, 1, none⟩)) (wt0 rfl) rfl rfl (x_fieldAddr rfl rfl fo65_1 rfl) ?_)
    refine R.l_of rfl (fun h => hL h) (s_val (v := .int .i64 ((h : Int))) (wt0 rfl) rfl rfl (x_load1 H5 0 rfl rfl Tryz.underlying3 rfl rfl rfl) ?_)
    refine R.l_of rfl (fun h => hL h) (s_val (v := .int .i64 ((V0 : Int))) (wt0 rfl) rfl rfl (x_move rfl rfl) ?_)
    refine R.l_of rfl (fun h => hL h) (s_val (v := .int .i64 ((h : Int) - (V0 : Int))) (wt0 rfl) rfl rfl (x_bin rfl rfl rfl (b_sub (w64 (by omega)))) ?_)
    refine R.l_of rfl (fun h => hL h) (s_val (v := .int .i64 ((((tallN l.length) : Nat) : Int))) (wt0 rfl) rfl rfl (x_move rfl rfl) ?_)
    refine R.l_of rfl (fun h => hL h) (s_val (v := .int .i64 (((h : Int) - (V0 : Int)) - (((tallN l.length) : Nat) : Int))) (wt0 rfl) rfl rfl (x_bin rfl rfl rfl (b_sub (w64 (by omega)))) ?_)
    refine R.l_of rfl (fun h => hL h) (s_val (v := .bool (!decide (((u.length : Int) : Int) = ((h : Int) - (V0 : Int)) - (((tallN l.length) : Nat) : Int)))) (wt0 rfl) rfl rfl (x_bin rfl rfl rfl b_neq) ?_)
    by_cases hb6 : ((u.length : Int) : Int) = ((h : Int) - (V0 : Int)) - (((tallN l.length) : Nat) : Int)
    · skip
      refine R.l_of rfl (fun h => hL h) (s_call (wt0 rfl) (x_call' rfl rfl cl36) (fail_r _ _ (nf hb6) _) ?_)
      rintro _ wq7 ⟨rfl, H8⟩
      replace H8 : S wq7 [Ob g1 (.cells #[.int .i64 n0, .int .i64 ((h : Int))] 65 (0, 0)), Marks [], Old w no] := H5.absorb (new := []) H8
      refine b_ret rfl rfl ?_
      refine R.g_nil ?_
      refine g_then ?_
      refine g_weak [(1, .string root), (2, .int .i64 ((V0 : Int))), (3, .int .i64 ((I0 : Int))), (4, .slice p l.length c), (5, .slice q u.length d), (12, .map none), (13, .int .i64 ((((tallN l.length) : Nat) : Int)))] ⟨rfl, rfl, rfl, rfl, rfl, rfl, rfl, trivial⟩ ?_
      refine R.g_seq ?_
      refine R.g_region ?_
      refine R.l_of rfl (fun h => hL h) (s_makeMap (α := ByteArray) placeV Value.string placeOk H8 (wt0 rfl) rfl rfl rfl ?_)
      intro g9 wq10 H11
      replace H11 : S wq10 [Mp placeV Value.string placeOk g9 (fun _ => none), Ob g1 (.cells #[.int .i64 n0, .int .i64 ((h : Int))] 65 (0, 0)), Marks [], Old w no] := H11
      refine R.l_of rfl (fun h => hL h) (s_val (v := .map (some g9)) (wt0 rfl) rfl rfl (x_assign rfl rfl) ?_)
      refine R.g_nil ?_
      refine g_then ?_
      refine R.g_seq ?_
      refine R.g_region ?_
      refine R.l_of rfl (fun h => hL h) (s_val (v := .slice p l.length c) (wt0 rfl) rfl rfl (x_move rfl rfl) ?_)
      refine R.l_of rfl (fun h => hL h) (s_call (wt0 rfl) (x_call' rfl rfl cl68) (clone_s l p l.length c hl1 hm _ (H11.oldReads (k := 3) rfl hr)) ?_)
      rintro _ wq14 ⟨p12, c13, rfl, H15⟩
      replace H15 : S wq14 [Rw 9 1 p12 l.length c13 (stV l), Mp placeV Value.string placeOk g9 (fun _ => none), Ob g1 (.cells #[.int .i64 n0, .int .i64 ((h : Int))] 65 (0, 0)), Marks [], Old w no] := H11.absorb (new := [Rw 9 1 p12 l.length c13 (stV l)]) H15
      refine b_ret rfl rfl ?_
      refine R.l_of rfl (fun h => hL h) (s_val (v := .slice p12 l.length c13) (wt0 rfl) rfl rfl (x_assign rfl rfl) ?_)
      refine R.g_nil ?_
      refine g_then ?_
      refine R.g_seq ?_
      refine R.g_seq ?_
      refine R.g_region ?_
      refine R.l_of rfl (fun h => hL h) (s_val (v := .int .i64 ((V0 : Int))) (wt0 rfl) rfl rfl (x_move rfl rfl) ?_)
      refine R.l_of rfl (fun h => hL h) (s_val (v := .int .i64 ((V0 : Int))) (wt0 rfl) rfl rfl (x_assign rfl rfl) ?_)
      refine R.g_nil ?_
      refine g_then ?_
      refine R.g_block ?_
      refine g_loopD (ι := Nat × Nat × Option Addr × Nat × List Nat) (fun (j, b, q1, d1, Ds) => [(1, .string root), (2, .int .i64 ((V0 : Int))), (3, .int .i64 ((b : Int))), (5, .slice q u.length d), (12, .map none), (13, .int .i64 ((((tallN l.length) : Nat) : Int))), (14, .map (some g9)), (15, .slice q1 (upN j l).length d1), (16, .int .i64 (((V0 + j : Nat) : Int)))]) (fun (j, b, q1, d1, Ds) => Ds.map mark) (fun (j, b, q1, d1, Ds) wx => (j ≤ (tallN l.length)) ∧ ((upN j l).length = 2 ^ ((tallN l.length) - j)) ∧ (b = I0 / 2 ^ j) ∧ (digsB (upN j l) = true) ∧ S wx [Mp placeV Value.string placeOk g9 (lowM V0 I0 l j), Rw 9 1 q1 (upN j l).length d1 (stV (upN j l)), Marks Ds, Old w no]) (fun (j, b, q1, d1, Ds) => (tallN l.length) - j) (0, I0, p12, c13, []) ⟨rfl, rfl, rfl, rfl, rfl, rfl, rfl, rfl, rfl, trivial⟩ rfl ⟨Nat.zero_le _, by rw [Nat.sub_zero, r5]; rfl, by rw [Nat.pow_zero, Nat.div_one], hdl, (H15.takes [1, 0, 3, 4] (by decide))⟩ ?_
      rintro ⟨j, b, q1, d1, Ds⟩ wq16 ⟨hj, hlen, hb, hdj, H17⟩
      replace H17 : S wq16 [Mp placeV Value.string placeOk g9 (lowM V0 I0 l j), Rw 9 1 q1 (upN j l).length d1 (stV (upN j l)), Marks Ds, Old w no] := H17
      refine g_weak [(1, .string root), (2, .int .i64 ((V0 : Int))), (3, .int .i64 ((b : Int))), (5, .slice q u.length d), (12, .map none), (13, .int .i64 ((((tallN l.length) : Nat) : Int))), (14, .map (some g9)), (15, .slice q1 (upN j l).length d1), (16, .int .i64 (((V0 + j : Nat) : Int)))] ⟨rfl, rfl, rfl, rfl, rfl, rfl, rfl, rfl, rfl, trivial⟩ ?_
      have hz : ∀ s ∈ upN j l, s.size ≤ 65536 := digs_size hdj
      have hbi : b ≤ I0 := by rw [hb]; exact Nat.div_le_self _ _
      have hkj : 2 ^ (tallN l.length - j) ≤ 2 ^ tallN l.length := Nat.pow_le_pow_right (by omega) (by omega)
      refine R.g_seq ?_
      refine R.g_block ?_
      refine R.g_seq ?_
      refine R.g_seq ?_
      refine R.g_region ?_
      refine R.l_of rfl (fun h => hL h) (s_val (v := .slice q1 (upN j l).length d1) (wt0 rfl) rfl rfl (x_move rfl rfl) ?_)
      refine R.l_of rfl (fun h => hL h) (s_val (v := .int .i64 (((upN j l).length : Int))) (wt0 rfl) rfl rfl (x_lenl rfl rfl Tryz.underlying22) ?_)
      refine R.l_of rfl (fun h => hL h) (s_val (v := .int .i64 0) (wt0 rfl) rfl rfl (x_move rfl rfl) ?_)
      refine R.g_nil ?_
      refine g_then ?_
      refine R.g_block ?_
      refine R.g_loop (ι := Nat) (fun r => [(1, .string root), (2, .int .i64 ((V0 : Int))), (3, .int .i64 ((b : Int))), (5, .slice q u.length d), (12, .map none), (13, .int .i64 ((((tallN l.length) : Nat) : Int))), (14, .map (some g9)), (15, .slice q1 (upN j l).length d1), (16, .int .i64 (((V0 + j : Nat) : Int))), (47, .slice q1 (upN j l).length d1), (48, .int .i64 (((upN j l).length : Int))), (49, .int .i64 ((r : Int)))]) (fun r wx => (r ≤ (upN j l).length) ∧ S wx [Mp placeV Value.string placeOk g9 (rowM (lowM V0 I0 l j) (V0 + j) b (upN j l) r), Rw 9 1 q1 (upN j l).length d1 (stV (upN j l)), Marks Ds, Old w no]) (fun r => (upN j l).length - r) (0) ⟨rfl, rfl, rfl, rfl, rfl, rfl, rfl, rfl, rfl, rfl, rfl, rfl, trivial⟩ ⟨Nat.zero_le _, H17⟩ ?_
      rintro r wq18 ⟨hrr, H19⟩
      replace H19 : S wq18 [Mp placeV Value.string placeOk g9 (rowM (lowM V0 I0 l j) (V0 + j) b (upN j l) r), Rw 9 1 q1 (upN j l).length d1 (stV (upN j l)), Marks Ds, Old w no] := H19
      refine g_weak [(1, .string root), (2, .int .i64 ((V0 : Int))), (3, .int .i64 ((b : Int))), (5, .slice q u.length d), (12, .map none), (13, .int .i64 ((((tallN l.length) : Nat) : Int))), (14, .map (some g9)), (15, .slice q1 (upN j l).length d1), (16, .int .i64 (((V0 + j : Nat) : Int))), (47, .slice q1 (upN j l).length d1), (48, .int .i64 (((upN j l).length : Int))), (49, .int .i64 ((r : Int)))] ⟨rfl, rfl, rfl, rfl, rfl, rfl, rfl, rfl, rfl, rfl, rfl, rfl, trivial⟩ ?_
      refine R.g_seq ?_
      refine R.g_region ?_
      refine R.l_of rfl (fun h => hL h) (s_val (v := .bool (decide (((r : Int) : Int) < ((upN j l).length : Int)))) (wt0 rfl) rfl rfl (x_bin rfl rfl rfl b_lss) ?_)
      refine R.g_nil ?_
      refine g_then ?_
      refine R.g_seq ?_
      by_cases hb20 : ((r : Int) : Int) < ((upN j l).length : Int)
      · skip
        refine R.g_cond_t rfl (decide_eq_true hb20) ?_
        refine R.g_skip ?_
        refine g_then ?_
        refine R.g_seq ?_
        refine R.g_block ?_
        refine R.g_seq ?_
        refine R.g_region ?_
        refine R.l_of rfl (fun h => hL h) (s_val (v := .int .i64 ((r : Int))) (wt0 rfl) rfl rfl (x_move rfl rfl) ?_)
        refine R.l_of rfl (fun h => hL h) (s_val (v := .pointer ((q1).map fun q => q.add (r * 1))) (wt0 rfl) rfl rfl (x_idxR r (H19.rwReads (k := 1) rfl) rfl rfl rfl Tryz.underlying22 sz9 (by omega)) ?_)
        refine R.l_of rfl (fun h => hL h) (s_val (v := .string (((upN j l).getD (r) ⟨#[]⟩))) (wt0 rfl) rfl rfl (x_loadR1 r (H19.rwReads (k := 1) rfl) (by omega) rfl rfl Tryz.underlying9 rfl (stV_at (by omega))) ?_)
        refine R.l_of rfl (fun h => hL h) (s_val (v := .int .i64 ((r : Int))) (wt0 rfl) rfl rfl (x_assign rfl rfl) ?_)
        refine R.l_of rfl (fun h => hL h) (s_val (v := .string (((upN j l).getD (r) ⟨#[]⟩))) (wt0 rfl) rfl rfl (x_assign rfl rfl) ?_)
        refine R.g_nil ?_
        refine g_then ?_
        refine R.g_region ?_
        refine R.l_of rfl (fun h => hL h) (s_val (v := .map (some g9)) (wt0 rfl) rfl rfl (x_move rfl rfl) ?_)
        refine R.l_of rfl (fun h => hL h) (s_val (v := .int .i64 (((V0 + j : Nat) : Int))) (wt0 rfl) rfl rfl (x_move rfl rfl) ?_)
        refine R.l_of rfl (fun h => hL h) (s_val (v := .int .i64 ((b : Int))) (wt0 rfl) rfl rfl (x_move rfl rfl) ?_)
        refine R.l_of rfl (fun h => hL h) (s_val (v := .int .i64 ((r : Int))) (wt0 rfl) rfl rfl (x_move rfl rfl) ?_)
        refine R.l_of rfl (fun h => hL h) (s_val (v := .int .i64 (((b + r : Nat) : Int))) (wt0 rfl) rfl rfl (x_bin rfl rfl rfl (b_addN (a := b) (b := r) (by omega))) ?_)
        refine R.l_of rfl (fun h => hL h) (s_val (v := .agg #[.int .i64 (((V0 + j : Nat) : Int)), .int .i64 (((b + r : Nat) : Int))]) (wt0 rfl) rfl rfl (x_build (vs := [.int .i64 (((V0 + j : Nat) : Int)), .int .i64 (((b + r : Nat) : Int))]) rfl rfl (cells := #[.int .i64 (((V0 + j : Nat) : Int)), .int .i64 (((b + r : Nat) : Int))]) (by kernel_rfl)) ?_)
        refine R.l_of rfl (fun h => hL h) (s_val (v := .string (((upN j l).getD (r) ⟨#[]⟩))) (wt0 rfl) rfl rfl (x_move rfl rfl) ?_)
        refine R.l_of rfl (fun h => hL h) (s_mapUpdate (x := ((V0 + j), (b + r))) (a := ((upN j l).getD (r) ⟨#[]⟩)) placeT H19 0 (wt0 rfl) rfl rfl rfl rfl rfl rfl ⟨by (show _ ≤ 1099511627776); omega, by (show _ ≤ 1099511627776); omega⟩ ?_)
        intro wq21 H22
        replace H22 : S wq21 [Mp placeV Value.string placeOk g9 (rowM (lowM V0 I0 l j) (V0 + j) b (upN j l) (r + 1)), Rw 9 1 q1 (upN j l).length d1 (stV (upN j l)), Marks Ds, Old w no] := H22
        refine R.g_nil ?_
        refine g_in ?_
        refine g_then ?_
        refine g_weak [(1, .string root), (2, .int .i64 ((V0 : Int))), (3, .int .i64 ((b : Int))), (5, .slice q u.length d), (12, .map none), (13, .int .i64 ((((tallN l.length) : Nat) : Int))), (14, .map (some g9)), (15, .slice q1 (upN j l).length d1), (16, .int .i64 (((V0 + j : Nat) : Int))), (47, .slice q1 (upN j l).length d1), (48, .int .i64 (((upN j l).length : Int))), (49, .int .i64 ((r : Int)))] ⟨rfl, rfl, rfl, rfl, rfl, rfl, rfl, rfl, rfl, rfl, rfl, rfl, trivial⟩ ?_
        refine R.g_region ?_
        refine R.l_of rfl (fun h => hL h) (s_val (v := .int .i64 ((r : Int) + 1)) (wt0 rfl) rfl rfl (x_bin rfl rfl rfl (b_add (w64 (by omega)))) ?_)
        refine R.l_of rfl (fun h => hL h) (s_val (v := .int .i64 ((r : Int) + 1)) (wt0 rfl) rfl rfl (x_move rfl rfl) ?_)
        refine R.g_nil ?_
        refine g_then ?_
        refine g_round (i := (r)) (r + 1) ?_ ?_ ?_
        · exact ⟨rfl, rfl, rfl, rfl, rfl, rfl, rfl, rfl, rfl, rfl, rfl, rfl, trivial⟩
        · exact ⟨by omega, H22⟩
        · (try dsimp only); omega
      · skip
        have hrl : r = (upN j l).length := by omega
        subst hrl
        refine R.g_cond_f rfl (decide_eq_false hb20) ?_
        refine R.g_exit ?_
        refine g_then_exit ?_
        refine g_then_exit ?_
        refine g_in_hit ?_
        refine g_then ?_
        refine R.g_seq ?_
        refine R.g_seq ?_
        refine R.g_region ?_
        refine R.l_of rfl (fun h => hL h) (s_val (v := .slice q1 (upN j l).length d1) (wt0 rfl) rfl rfl (x_move rfl rfl) ?_)
        refine R.l_of rfl (fun h => hL h) (s_val (v := .int .i64 (((upN j l).length : Int))) (wt0 rfl) rfl rfl (x_lenl rfl rfl Tryz.underlying22) ?_)
        refine R.l_of rfl (fun h => hL h) (s_val (v := .bool (decide ((((upN j l).length : Int) : Int) = 1))) (wt0 rfl) rfl rfl (x_bin rfl rfl rfl b_eql) ?_)
        refine R.g_nil ?_
        refine g_then ?_
        by_cases hb23 : (((upN j l).length : Int) : Int) = 1
        · skip
          have hjk : j = (tallN l.length) := by have := pow_one (t := (tallN l.length) - j) (by omega); omega
          subst hjk
          have hu1 : (upN (tallN l.length) l).length = 1 := by omega
          refine R.g_cond_t rfl (decide_eq_true hb23) ?_
          refine R.g_exit ?_
          refine g_then_exit ?_
          refine g_in_miss rfl ?_
          refine g_then_exit ?_
          refine g_then_exit ?_
          refine g_in_hit ?_
          refine g_then ?_
          refine R.g_seq ?_
          refine R.g_region ?_
          refine R.l_of rfl (fun h => hL h) (s_val (v := .slice q1 (upN (tallN l.length) l).length d1) (wt0 rfl) rfl rfl (x_move rfl rfl) ?_)
          refine R.l_of rfl (fun h => hL h) (s_val (v := .pointer ((q1).map fun q => q.add (0 * 1))) (wt0 rfl) rfl rfl (x_idxR 0 (H19.rwReads (k := 1) rfl) rfl rfl rfl Tryz.underlying22 sz9 (by omega)) ?_)
          refine R.l_of rfl (fun h => hL h) (s_val (v := .string (((upN (tallN l.length) l).getD (0) ⟨#[]⟩))) (wt0 rfl) rfl rfl (x_loadR1 0 (H19.rwReads (k := 1) rfl) (by omega) rfl rfl Tryz.underlying9 rfl (stV_at (by omega))) ?_)
          refine R.l_of rfl (fun h => hL h) (s_val (v := .int .i64 ((V0 : Int))) (wt0 rfl) rfl rfl (x_move rfl rfl) ?_)
          refine R.l_of rfl (fun h => hL h) (s_val (v := .int .i64 ((((tallN l.length) : Nat) : Int))) (wt0 rfl) rfl rfl (x_move rfl rfl) ?_)
          refine R.l_of rfl (fun h => hL h) (s_val (v := .int .i64 (((V0 + (tallN l.length) : Nat) : Int))) (wt0 rfl) rfl rfl (x_bin rfl rfl rfl (b_addN (a := V0) (b := (tallN l.length)) (by omega))) ?_)
          refine R.l_of rfl (fun h => hL h) (s_val (v := .string (((upN (tallN l.length) l).getD (0) ⟨#[]⟩))) (wt0 rfl) rfl rfl (x_assign rfl rfl) ?_)
          refine R.l_of rfl (fun h => hL h) (s_val (v := .int .i64 (((V0 + (tallN l.length) : Nat) : Int))) (wt0 rfl) rfl rfl (x_assign rfl rfl) ?_)
          refine R.g_nil ?_
          refine g_then ?_
          refine g_weak [(1, .string root), (3, .int .i64 ((b : Int))), (5, .slice q u.length d), (14, .map (some g9)), (21, .string (((upN (tallN l.length) l).getD (0) ⟨#[]⟩))), (22, .int .i64 (((V0 + (tallN l.length) : Nat) : Int)))] ⟨rfl, rfl, rfl, rfl, rfl, rfl, trivial⟩ ?_
          refine R.g_seq ?_
          refine R.g_seq ?_
          refine R.g_region ?_
          refine R.l_of rfl (fun h => hL h) (s_val (v := .slice q u.length d) (wt0 rfl) rfl rfl (x_move rfl rfl) ?_)
          refine R.l_of rfl (fun h => hL h) (s_val (v := .int .i64 ((u.length : Int))) (wt0 rfl) rfl rfl (x_lenl rfl rfl Tryz.underlying22) ?_)
          refine R.l_of rfl (fun h => hL h) (s_val (v := .int .i64 0) (wt0 rfl) rfl rfl (x_move rfl rfl) ?_)
          refine R.g_nil ?_
          refine g_then ?_
          refine R.g_block ?_
          have hlo : lowM V0 I0 l ((tallN l.length) + 1) = rowM (lowM V0 I0 l (tallN l.length)) (V0 + (tallN l.length)) b (upN (tallN l.length) l) (upN (tallN l.length) l).length := by rw [hb]; rfl
          refine R.g_loop (ι := Nat × Nat) (fun (s, bs) => [(1, .string root), (3, .int .i64 ((bs : Int))), (14, .map (some g9)), (21, .string ((topS b ((upN (tallN l.length) l).getD 0 ⟨#[]⟩) u s))), (22, .int .i64 (((V0 + (tallN l.length) + s : Nat) : Int))), (87, .slice q u.length d), (88, .int .i64 ((u.length : Int))), (89, .int .i64 ((s : Int)))]) (fun (s, bs) wx => (s ≤ u.length) ∧ (bs = b / 2 ^ s) ∧ S wx [Mp placeV Value.string placeOk g9 (pathM (lowM V0 I0 l ((tallN l.length) + 1)) (V0 + (tallN l.length)) b ((upN (tallN l.length) l).getD 0 ⟨#[]⟩) u s), Marks Ds, Old w no]) (fun (s, bs) => u.length - s) (0, b) ⟨rfl, rfl, rfl, rfl, rfl, rfl, rfl, rfl, trivial⟩ ⟨Nat.zero_le _, by rw [Nat.pow_zero, Nat.div_one], (by show S _ [Mp placeV Value.string placeOk g9 (lowM V0 I0 l ((tallN l.length) + 1)), Marks Ds, Old w no]; rw [hlo]; exact (H19.takes [0, 2, 3] (by decide)))⟩ ?_
          rintro ⟨s, bs⟩ wq25 ⟨hs, hbs, H26⟩
          replace H26 : S wq25 [Mp placeV Value.string placeOk g9 (pathM (lowM V0 I0 l ((tallN l.length) + 1)) (V0 + (tallN l.length)) b ((upN (tallN l.length) l).getD 0 ⟨#[]⟩) u s), Marks Ds, Old w no] := H26
          refine g_weak [(1, .string root), (3, .int .i64 ((bs : Int))), (14, .map (some g9)), (21, .string ((topS b ((upN (tallN l.length) l).getD 0 ⟨#[]⟩) u s))), (22, .int .i64 (((V0 + (tallN l.length) + s : Nat) : Int))), (87, .slice q u.length d), (88, .int .i64 ((u.length : Int))), (89, .int .i64 ((s : Int)))] ⟨rfl, rfl, rfl, rfl, rfl, rfl, rfl, rfl, trivial⟩ ?_
          have hbsi : bs ≤ b := by rw [hbs]; exact Nat.div_le_self _ _
          have htz : (topS b ((upN (tallN l.length) l).getD 0 ⟨#[]⟩) u s).size = 32 := topS_size (digs_get hdj (by omega)) s
          have hx1 : bs ^^^ 1 ≤ bs + 1 := by rw [← sib_xor]; unfold sibN; split <;> omega
          refine R.g_seq ?_
          refine R.g_region ?_
          refine R.l_of rfl (fun h => hL h) (s_val (v := .bool (decide (((s : Int) : Int) < (u.length : Int)))) (wt0 rfl) rfl rfl (x_bin rfl rfl rfl b_lss) ?_)
          refine R.g_nil ?_
          refine g_then ?_
          refine R.g_seq ?_
          by_cases hb27 : ((s : Int) : Int) < (u.length : Int)
          · skip
            have hus : (u.getD s ⟨#[]⟩).size = 32 := digs_get hdu (by omega)
            refine R.g_cond_t rfl (decide_eq_true hb27) ?_
            refine R.g_skip ?_
            refine g_then ?_
            refine R.g_seq ?_
            refine R.g_block ?_
            refine R.g_seq ?_
            refine R.g_region ?_
            refine R.l_of rfl (fun h => hL h) (s_val (v := .pointer ((q).map fun q => q.add (s * 1))) (wt0 rfl) rfl rfl (x_idxR s (H26.oldReads (k := 2) rfl hu) rfl rfl rfl Tryz.underlying22 sz9 (by omega)) ?_)
            refine R.l_of rfl (fun h => hL h) (s_val (v := .string ((u.getD (s) ⟨#[]⟩))) (wt0 rfl) rfl rfl (x_loadR1 s (H26.oldReads (k := 2) rfl hu) (by omega) rfl rfl Tryz.underlying9 rfl (stV_at (by omega))) ?_)
            refine R.l_of rfl (fun h => hL h) (s_val (v := .string ((u.getD (s) ⟨#[]⟩))) (wt0 rfl) rfl rfl (x_assign rfl rfl) ?_)
            refine R.g_nil ?_
            refine g_then ?_
            refine R.g_seq ?_
            refine R.g_region ?_
            refine R.l_of rfl (fun h => hL h) (s_val (v := .map (some g9)) (wt0 rfl) rfl rfl (x_move rfl rfl) ?_)
            refine R.l_of rfl (fun h => hL h) (s_val (v := .int .i64 (((V0 + (tallN l.length) + s : Nat) : Int))) (wt0 rfl) rfl rfl (x_move rfl rfl) ?_)
            refine R.l_of rfl (fun h => hL h) (s_val (v := .int .i64 ((bs : Int))) (wt0 rfl) rfl rfl (x_move rfl rfl) ?_)
            refine R.l_of rfl (fun h => hL h) (s_val (v := .int .i64 (((bs ^^^ 1 : Nat) : Int))) (wt0 rfl) rfl rfl (x_bin rfl rfl rfl (b_xorN (a := bs) (b := 1) (by omega))) ?_)
            refine R.l_of rfl (fun h => hL h) (s_val (v := .agg #[.int .i64 (((V0 + (tallN l.length) + s : Nat) : Int)), .int .i64 (((bs ^^^ 1 : Nat) : Int))]) (wt0 rfl) rfl rfl (x_build (vs := [.int .i64 (((V0 + (tallN l.length) + s : Nat) : Int)), .int .i64 (((bs ^^^ 1 : Nat) : Int))]) rfl rfl (cells := #[.int .i64 (((V0 + (tallN l.length) + s : Nat) : Int)), .int .i64 (((bs ^^^ 1 : Nat) : Int))]) (by kernel_rfl)) ?_)
            refine R.l_of rfl (fun h => hL h) (s_val (v := .string ((u.getD (s) ⟨#[]⟩))) (wt0 rfl) rfl rfl (x_move rfl rfl) ?_)
            refine R.l_of rfl (fun h => hL h) (s_mapUpdate (x := ((V0 + (tallN l.length) + s), (bs ^^^ 1))) (a := (u.getD (s) ⟨#[]⟩)) placeT H26 0 (wt0 rfl) rfl rfl rfl rfl rfl rfl ⟨by (show _ ≤ 1099511627776); omega, by (show _ ≤ 1099511627776); omega⟩ ?_)
            intro wq28 H29
            replace H29 : S wq28 [Mp placeV Value.string placeOk g9 (upM (pathM (lowM V0 I0 l ((tallN l.length) + 1)) (V0 + (tallN l.length)) b ((upN (tallN l.length) l).getD 0 ⟨#[]⟩) u s) ((V0 + (tallN l.length) + s), (bs ^^^ 1)) (u.getD (s) ⟨#[]⟩)), Marks Ds, Old w no] := H29
            refine R.g_nil ?_
            refine g_then ?_
            refine R.g_seq ?_
            refine R.g_cut (ι := Unit) (fun _ => [(1, .string root), (3, .int .i64 ((bs : Int))), (14, .map (some g9)), (21, .string ((topS b ((upN (tallN l.length) l).getD 0 ⟨#[]⟩) u (s + 1)))), (22, .int .i64 (((V0 + (tallN l.length) + s : Nat) : Int))), (87, .slice q u.length d), (88, .int .i64 ((u.length : Int))), (89, .int .i64 ((s : Int)))]) (fun _ wx => S wx [Mp placeV Value.string placeOk g9 (upM (pathM (lowM V0 I0 l ((tallN l.length) + 1)) (V0 + (tallN l.length)) b ((upN (tallN l.length) l).getD 0 ⟨#[]⟩) u s) ((V0 + (tallN l.length) + s), (bs ^^^ 1)) (u.getD (s) ⟨#[]⟩)), Marks Ds, Old w no]) ?_ ?_
            · skip
              refine R.g_seq ?_
              refine R.g_region ?_
              refine R.l_of rfl (fun h => hL h) (s_val (v := .int .i64 ((bs : Int))) (wt0 rfl) rfl rfl (x_move rfl rfl) ?_)
              refine R.l_of rfl (fun h => hL h) (s_val (v := .int .i64 (((bs % 2 : Nat) : Int))) (wt0 rfl) rfl rfl (x_bin rfl rfl rfl (b_remN (a := bs) (b := 2) (by omega))) ?_)
              refine R.l_of rfl (fun h => hL h) (s_val (v := .bool (decide ((((bs % 2 : Nat) : Int) : Int) = 0))) (wt0 rfl) rfl rfl (x_bin rfl rfl rfl b_eql) ?_)
              refine R.g_nil ?_
              refine g_then ?_
              by_cases hb30 : (((bs % 2 : Nat) : Int) : Int) = 0
              · skip
                refine R.g_cond_t rfl (decide_eq_true hb30) ?_
                refine R.g_region ?_
                refine R.l_of rfl (fun h => hL h) (s_val (v := .string ((topS b ((upN (tallN l.length) l).getD 0 ⟨#[]⟩) u s))) (wt0 rfl) rfl rfl (x_move rfl rfl) ?_)
                refine R.l_of rfl (fun h => hL h) (s_val (v := .string ((u.getD (s) ⟨#[]⟩))) (wt0 rfl) rfl rfl (x_move rfl rfl) ?_)
                refine R.l_of rfl (fun h => hL h) (s_call (wt0 rfl) (x_call' rfl rfl cl28) (pair_h _ _ (by omega) _) ?_)
                rintro _ wq31 ⟨rfl, H32⟩
                replace H32 : S wq31 [Mp placeV Value.string placeOk g9 (upM (pathM (lowM V0 I0 l ((tallN l.length) + 1)) (V0 + (tallN l.length)) b ((upN (tallN l.length) l).getD 0 ⟨#[]⟩) u s) ((V0 + (tallN l.length) + s), (bs ^^^ 1)) (u.getD (s) ⟨#[]⟩)), Marks Ds, Old w no] := H29.absorb (new := []) H32
                refine b_ret rfl rfl ?_
                refine R.l_of rfl (fun h => hL h) (s_val (v := .string ((pairS (topS b ((upN (tallN l.length) l).getD 0 ⟨#[]⟩) u s) (u.getD (s) ⟨#[]⟩)))) (wt0 rfl) rfl rfl (x_assign rfl rfl) ?_)
                refine R.g_nil ?_
                refine g_then ?_
                rw [show (pairS (topS b ((upN (tallN l.length) l).getD 0 ⟨#[]⟩) u s) (u.getD (s) ⟨#[]⟩)) = (topS b ((upN (tallN l.length) l).getD 0 ⟨#[]⟩) u (s + 1)) from by (conv => rhs; unfold topS); rw [if_pos (by rw [← hbs]; omega)]]
                refine g_mid () ?_ ?_
                · exact ⟨rfl, rfl, rfl, rfl, rfl, rfl, rfl, rfl, trivial⟩
                · exact H32
              · skip
                refine R.g_cond_f rfl (decide_eq_false hb30) ?_
                refine R.g_region ?_
                refine R.l_of rfl (fun h => hL h) (s_val (v := .string ((u.getD (s) ⟨#[]⟩))) (wt0 rfl) rfl rfl (x_move rfl rfl) ?_)
                refine R.l_of rfl (fun h => hL h) (s_val (v := .string ((topS b ((upN (tallN l.length) l).getD 0 ⟨#[]⟩) u s))) (wt0 rfl) rfl rfl (x_move rfl rfl) ?_)
                refine R.l_of rfl (fun h => hL h) (s_call (wt0 rfl) (x_call' rfl rfl cl28) (pair_h _ _ (by omega) _) ?_)
                rintro _ wq33 ⟨rfl, H34⟩
                replace H34 : S wq33 [Mp placeV Value.string placeOk g9 (upM (pathM (lowM V0 I0 l ((tallN l.length) + 1)) (V0 + (tallN l.length)) b ((upN (tallN l.length) l).getD 0 ⟨#[]⟩) u s) ((V0 + (tallN l.length) + s), (bs ^^^ 1)) (u.getD (s) ⟨#[]⟩)), Marks Ds, Old w no] := H29.absorb (new := []) H34
                refine b_ret rfl rfl ?_
                refine R.l_of rfl (fun h => hL h) (s_val (v := .string ((pairS (u.getD (s) ⟨#[]⟩) (topS b ((upN (tallN l.length) l).getD 0 ⟨#[]⟩) u s)))) (wt0 rfl) rfl rfl (x_assign rfl rfl) ?_)
                refine R.g_nil ?_
                refine g_then ?_
                rw [show (pairS (u.getD (s) ⟨#[]⟩) (topS b ((upN (tallN l.length) l).getD 0 ⟨#[]⟩) u s)) = (topS b ((upN (tallN l.length) l).getD 0 ⟨#[]⟩) u (s + 1)) from by (conv => rhs; unfold topS); rw [if_neg (by rw [← hbs]; omega)]]
                refine g_mid () ?_ ?_
                · exact ⟨rfl, rfl, rfl, rfl, rfl, rfl, rfl, rfl, trivial⟩
                · exact H34
            rintro _ wq35 H36
            replace H36 : S wq35 [Mp placeV Value.string placeOk g9 (upM (pathM (lowM V0 I0 l ((tallN l.length) + 1)) (V0 + (tallN l.length)) b ((upN (tallN l.length) l).getD 0 ⟨#[]⟩) u s) ((V0 + (tallN l.length) + s), (bs ^^^ 1)) (u.getD (s) ⟨#[]⟩)), Marks Ds, Old w no] := H36
            refine g_weak [(1, .string root), (3, .int .i64 ((bs : Int))), (14, .map (some g9)), (21, .string ((topS b ((upN (tallN l.length) l).getD 0 ⟨#[]⟩) u (s + 1)))), (22, .int .i64 (((V0 + (tallN l.length) + s : Nat) : Int))), (87, .slice q u.length d), (88, .int .i64 ((u.length : Int))), (89, .int .i64 ((s : Int)))] ⟨rfl, rfl, rfl, rfl, rfl, rfl, rfl, rfl, trivial⟩ ?_
            refine R.g_seq ?_
            refine R.g_region ?_
            refine R.l_of rfl (fun h => hL h) (s_val (v := .int .i64 (((V0 + (tallN l.length) + s : Nat) : Int))) (wt0 rfl) rfl rfl (x_move rfl rfl) ?_)
            refine R.l_of rfl (fun h => hL h) (s_val (v := .int .i64 (((V0 + (tallN l.length) + s + 1 : Nat) : Int))) (wt0 rfl) rfl rfl (x_bin rfl rfl rfl (b_addN (a := V0 + (tallN l.length) + s) (b := 1) (by omega))) ?_)
            refine R.l_of rfl (fun h => hL h) (s_val (v := .int .i64 ((bs : Int))) (wt0 rfl) rfl rfl (x_move rfl rfl) ?_)
            refine R.l_of rfl (fun h => hL h) (s_val (v := .int .i64 (((bs / 2 : Nat) : Int))) (wt0 rfl) rfl rfl (x_bin rfl rfl rfl (b_quoN (a := bs) (b := 2) (by omega))) ?_)
            refine R.l_of rfl (fun h => hL h) (s_val (v := .int .i64 (((V0 + (tallN l.length) + s + 1 : Nat) : Int))) (wt0 rfl) rfl rfl (x_assign rfl rfl) ?_)
            refine R.l_of rfl (fun h => hL h) (s_val (v := .int .i64 (((bs / 2 : Nat) : Int))) (wt0 rfl) rfl rfl (x_assign rfl rfl) ?_)
            refine R.g_nil ?_
            refine g_then ?_
            refine R.g_region ?_
            refine R.l_of rfl (fun h => hL h) (s_val (v := .map (some g9)) (wt0 rfl) rfl rfl (x_move rfl rfl) ?_)
            refine R.l_of rfl (fun h => hL h) (s_val (v := .int .i64 (((V0 + (tallN l.length) + s + 1 : Nat) : Int))) (wt0 rfl) rfl rfl (x_move rfl rfl) ?_)
            refine R.l_of rfl (fun h => hL h) (s_val (v := .int .i64 (((bs / 2 : Nat) : Int))) (wt0 rfl) rfl rfl (x_move rfl rfl) ?_)
            refine R.l_of rfl (fun h => hL h) (s_val (v := .agg #[.int .i64 (((V0 + (tallN l.length) + s + 1 : Nat) : Int)), .int .i64 (((bs / 2 : Nat) : Int))]) (wt0 rfl) rfl rfl (x_build (vs := [.int .i64 (((V0 + (tallN l.length) + s + 1 : Nat) : Int)), .int .i64 (((bs / 2 : Nat) : Int))]) rfl rfl (cells := #[.int .i64 (((V0 + (tallN l.length) + s + 1 : Nat) : Int)), .int .i64 (((bs / 2 : Nat) : Int))]) (by kernel_rfl)) ?_)
            refine R.l_of rfl (fun h => hL h) (s_val (v := .string ((topS b ((upN (tallN l.length) l).getD 0 ⟨#[]⟩) u (s + 1)))) (wt0 rfl) rfl rfl (x_move rfl rfl) ?_)
            refine R.l_of rfl (fun h => hL h) (s_mapUpdate (x := ((V0 + (tallN l.length) + s + 1), (bs / 2))) (a := (topS b ((upN (tallN l.length) l).getD 0 ⟨#[]⟩) u (s + 1))) placeT H36 0 (wt0 rfl) rfl rfl rfl rfl rfl rfl ⟨by (show _ ≤ 1099511627776); omega, by (show _ ≤ 1099511627776); omega⟩ ?_)
            intro wq37 H38
            replace H38 : S wq37 [Mp placeV Value.string placeOk g9 (upM (upM (pathM (lowM V0 I0 l ((tallN l.length) + 1)) (V0 + (tallN l.length)) b ((upN (tallN l.length) l).getD 0 ⟨#[]⟩) u s) ((V0 + (tallN l.length) + s), (bs ^^^ 1)) (u.getD (s) ⟨#[]⟩)) ((V0 + (tallN l.length) + s + 1), (bs / 2)) (topS b ((upN (tallN l.length) l).getD 0 ⟨#[]⟩) u (s + 1))), Marks Ds, Old w no] := H38
            refine R.g_nil ?_
            refine g_in ?_
            refine g_then ?_
            refine R.g_region ?_
            refine R.l_of rfl (fun h => hL h) (s_val (v := .int .i64 ((s : Int) + 1)) (wt0 rfl) rfl rfl (x_bin rfl rfl rfl (b_add (w64 (by omega)))) ?_)
            refine R.l_of rfl (fun h => hL h) (s_val (v := .int .i64 ((s : Int) + 1)) (wt0 rfl) rfl rfl (x_move rfl rfl) ?_)
            refine R.g_nil ?_
            refine g_then ?_
            refine g_round (i := (s, bs)) (s + 1, bs / 2) ?_ ?_ ?_
            · exact ⟨rfl, rfl, rfl, rfl, rfl, rfl, rfl, rfl, trivial⟩
            · exact ⟨by omega, (by rw [hbs, Nat.div_div_eq_div_mul, Nat.pow_succ]), (by rw [show pathM (lowM V0 I0 l ((tallN l.length) + 1)) (V0 + (tallN l.length)) b ((upN (tallN l.length) l).getD 0 ⟨#[]⟩) u (s + 1) = upM (upM (pathM (lowM V0 I0 l ((tallN l.length) + 1)) (V0 + (tallN l.length)) b ((upN (tallN l.length) l).getD 0 ⟨#[]⟩) u s) (V0 + (tallN l.length) + s, bs ^^^ 1) (u.getD s ⟨#[]⟩)) (V0 + (tallN l.length) + s + 1, bs / 2) (topS b ((upN (tallN l.length) l).getD 0 ⟨#[]⟩) u (s + 1)) from by rw [hbs, Nat.div_div_eq_div_mul, ← Nat.pow_succ]; rfl]; exact (H38.takes [0, 1, 2] (by decide)))⟩
            · (try dsimp only); omega
          · skip
            have hsl : s = u.length := by omega
            subst hsl
            refine R.g_cond_f rfl (decide_eq_false hb27) ?_
            refine R.g_exit ?_
            refine g_then_exit ?_
            refine g_then_exit ?_
            refine g_in_hit ?_
            refine g_then ?_
            refine R.g_seq ?_
            refine R.g_region ?_
            refine R.l_of rfl (fun h => hL h) (s_val (v := .string ((topS b ((upN (tallN l.length) l).getD 0 ⟨#[]⟩) u u.length))) (wt0 rfl) rfl rfl (x_move rfl rfl) ?_)
            refine R.l_of rfl (fun h => hL h) (s_val (v := .string root) (wt0 rfl) rfl rfl (x_move rfl rfl) ?_)
            refine R.l_of rfl (fun h => hL h) (s_val (v := .bool (!decide ((topS b ((upN (tallN l.length) l).getD 0 ⟨#[]⟩) u u.length) = root))) (wt0 rfl) rfl rfl (x_bin rfl rfl rfl b_nes) ?_)
            by_cases hb39 : (topS b ((upN (tallN l.length) l).getD 0 ⟨#[]⟩) u u.length) = root
            · skip
              refine R.l_of rfl (fun h => hL h) (s_call (wt0 rfl) (x_call' rfl rfl cl36) (fail_r _ _ (nf hb39) _) ?_)
              rintro _ wq40 ⟨rfl, H41⟩
              replace H41 : S wq40 [Mp placeV Value.string placeOk g9 (pathM (lowM V0 I0 l ((tallN l.length) + 1)) (V0 + (tallN l.length)) b ((upN (tallN l.length) l).getD 0 ⟨#[]⟩) u u.length), Marks Ds, Old w no] := H26.absorb (new := []) H41
              refine b_ret rfl rfl ?_
              refine R.g_nil ?_
              refine g_then ?_
              refine g_weak [(14, .map (some g9))] ⟨rfl, trivial⟩ ?_
              refine R.g_seq ?_
              refine R.g_region ?_
              refine R.l_of rfl (fun h => hL h) (s_val (v := .map (some g9)) (wt0 rfl) rfl rfl (x_move rfl rfl) ?_)
              refine R.l_of rfl (fun h => hL h) (s_val (v := .map (some g9)) (wt0 rfl) rfl rfl (x_assign rfl rfl) ?_)
              refine R.g_nil ?_
              refine g_then ?_
              refine R.g_ret ?_
              have H42 := H41.takes [1, 0, 2] (by decide)
              have hmd : madeS ((I0 : Int)).toNat l u = root := by unfold madeS; rw [Int.toNat_natCast, ← hb]; exact hb39
              have hpe : provE h root (V0 : Int) (I0 : Int) l u = 0 := by unfold provE; rw [if_pos hrt, if_pos (by omega), if_pos hmd]
              refine fin_marks H42 [.tmp 12] [.map (some g9)] rfl (fun W' hW => ⟨⟨rfl, trivial⟩, .inl ⟨hpe, _, rfl, ?_⟩⟩)
              show S W' [Mp placeV Value.string placeOk _ (provM ((V0 : Int)).toNat ((I0 : Int)).toNat l u), Old w no]
              unfold provM; rw [Int.toNat_natCast, Int.toNat_natCast, ← hb]
              exact hW
            · skip
              refine R.l_of rfl (fun h => hL h) (s_call (wt0 rfl) (x_call' rfl rfl cl36) (fail_p _ _ (nt hb39) _) ?_)
              rintro _ wq43 ⟨rfl, H44⟩
              replace H44 : S wq43 [Mp placeV Value.string placeOk g9 (pathM (lowM V0 I0 l ((tallN l.length) + 1)) (V0 + (tallN l.length)) b ((upN (tallN l.length) l).getD 0 ⟨#[]⟩) u u.length), Marks Ds, Old w no] := H26.absorb (new := []) H44
              refine b_panic ?_
              refine g_then_panic ?_
              have H45 := H44.takes [1, 2] (by decide)
              have hne : ¬ madeS ((I0 : Int)).toNat l u = root := by unfold madeS; rw [Int.toNat_natCast, ← hb]; exact hb39
              have hpe : provE h root (V0 : Int) (I0 : Int) l u = 13 := by unfold provE; rw [if_pos hrt, if_pos (by omega), if_neg (fun e => hne e)]
              refine fin_panicM H45 (fun W' hW => .inr ⟨by rw [hpe]; decide, by rw [hpe], hW⟩)
        · skip
          obtain ⟨Q, hQ, hjlt⟩ := upN_even (K := (tallN l.length)) hlen hb23
          refine R.g_cond_f rfl (decide_eq_false hb23) ?_
          refine R.g_skip ?_
          refine g_then ?_
          refine R.g_seq ?_
          refine R.g_region ?_
          refine R.l_of rfl (fun h => hL h) (s_alloc H19 (wt0 rfl) rfl rfl rfl ze22 ?_)
          intro g46 wq47 H48
          refine R.g_nil ?_
          refine g_then ?_
          refine R.g_seq ?_
          refine R.g_seq ?_
          refine R.g_region ?_
          refine R.l_of rfl (fun h => hL h) (s_val (v := .slice q1 (upN j l).length d1) (wt0 rfl) rfl rfl (x_move rfl rfl) ?_)
          refine R.l_of rfl (fun h => hL h) (s_call (wt0 rfl) (x_call' rfl rfl cl72) (chunk_s _ _ _ _) ?_)
          rintro _ wq51 ⟨g49, g50, rfl, H52⟩
          replace H52 : S wq51 [Ob g50 (.cells #[.int .i64 2] 3 (0, 0)), Ob g49 (.cells #[.slice q1 (upN j l).length d1] 22 (0, 0)), Ob g46 (.cells #[.slice none 0 0] 22 (0, 0)), Mp placeV Value.string placeOk g9 (rowM (lowM V0 I0 l j) (V0 + j) b (upN j l) (upN j l).length), Rw 9 1 q1 (upN j l).length d1 (stV (upN j l)), Marks Ds, Old w no] := H48.absorb (new := [Ob g50 (.cells #[.int .i64 2] 3 (0, 0)), Ob g49 (.cells #[.slice q1 (upN j l).length d1] 22 (0, 0))]) H52
          refine b_ret rfl rfl ?_
          refine R.g_nil ?_
          refine g_then ?_
          refine R.g_block ?_
          have hX2b : ∀ W, (Big [Old w no, Rw 9 1 q1 (upN j l).length d1 (stV (upN j l))]).ok W → Reads W q1 (upN j l).length d1 1 (stV (upN j l)) := fun W h => S.rwReads (k := 1) (show S W [Old w no, Rw 9 1 q1 (upN j l).length d1 (stV (upN j l))] from h) rfl
          have hc2 : (upN j l).length ≤ d1 := ((H52).rwReads (k := 4) rfl).2.1
          have H53 : S wq51 [Rw 9 1 none 0 0 (stV []), Ob g50 (.cells #[.int .i64 2] 3 (0, 0)), Ob g49 (.cells #[.slice q1 (upN j l).length d1] 22 (0, 0)), Ob g46 (.cells #[.slice none 0 0] 22 (0, 0)), Mp placeV Value.string placeOk g9 (rowM (lowM V0 I0 l j) (V0 + j) b (upN j l) (upN j l).length), Rw 9 1 q1 (upN j l).length d1 (stV (upN j l)), Marks Ds, Old w no] := H52.nilRw 9 1
          have H54 := S.big2 (A := [_, _]) (B := [_, _]) (H53.takes [7, 5, 1, 2, 6, 4, 3, 0] (by decide))
          refine g_rangeS (α := Nat) (encs := encP q1) (base := Big [Old w no, Rw 9 1 q1 (upN j l).length d1 (stV (upN j l))]) (by omega) rfl cl90 (chunk_it (n := (upN j l).length) hQ hc2 (by omega)) (fun _ => rfl) rfl (fun pre Lx => ∃ q2 d2, Lx = [Marks Ds, Mp placeV Value.string placeOk g9 (rowM (lowM V0 I0 l j) (V0 + j) b (upN j l) (upN j l).length), Ob g46 (.cells #[.slice q2 pre.length d2] 22 (0, 0)), Rw 9 1 q2 pre.length d2 (stV (upTo (upN j l) pre.length))]) (fun _ _ => False) (fun x => [(19, .pointer (some ⟨g46, 0, none⟩)), (20, .slice (q1.map fun q => q.add (2 * x * 1)) 2 2)]) (fun _ _ _ => trivial) ⟨none, 0, rfl⟩ H54 ?_ ?_ ?_ (fun _ _ _ _ _ h => h.elim)
          · rintro l1 x Ly W55 H56
            have hL : ¬ LetsOut (fun (_ : Exit) (_ : Act) (_ : World) => False) := fun ⟨_, _, h⟩ => h
            refine g_weak [(19, .pointer (some ⟨g46, 0, none⟩)), (67, .slice (q1.map fun q => q.add (2 * x * 1)) 2 2)] ⟨rfl, rfl, trivial⟩ ?_
            refine R.g_region ?_
            refine R.l_of rfl (fun h => hL h) (s_val (v := .slice (q1.map fun q => q.add (2 * x * 1)) 2 2) (wt0 rfl) rfl rfl (x_assign rfl rfl) ?_)
            refine R.g_nil ?_
            refine g_then ?_
            exact rs_assign ⟨rfl, rfl, trivial⟩ H56
          · rintro l1 pr x I Kx _ W57 ⟨q2, d2, rfl⟩ ⟨rfl, hxq⟩ H58
            replace H58 : S W57 [Big [Old w no, Rw 9 1 q1 (upN j l).length d1 (stV (upN j l))], I, Kx, Marks Ds, Mp placeV Value.string placeOk g9 (rowM (lowM V0 I0 l j) (V0 + j) b (upN j l) (upN j l).length), Ob g46 (.cells #[.slice q2 pr.length d2] 22 (0, 0)), Rw 9 1 q2 pr.length d2 (stV (upTo (upN j l) pr.length))] := H58
            have hs0 : ((upN j l).getD (2 * pr.length) ⟨#[]⟩).size ≤ 65536 := getD_size hz (by omega)
            have hs1 : ((upN j l).getD (2 * pr.length + 1) ⟨#[]⟩).size ≤ 65536 := getD_size hz (by omega)
            have hsm : ∃ a, (q1.map fun q => q.add (2 * pr.length * 1)) = some a := ((reads_two (i := pr.length) (hX2b _ (H58.at (k := 0) rfl)) (by omega)).2.2 (by omega)).imp fun _ h => h.1
            refine g_weak [(19, .pointer (some ⟨g46, 0, none⟩)), (20, .slice (q1.map fun q => q.add (2 * pr.length * 1)) 2 2)] ⟨rfl, rfl, trivial⟩ ?_
            refine R.g_block ?_
            refine R.g_anyY [] (fun wx => S wx [Big [Old w no, Rw 9 1 q1 (upN j l).length d1 (stV (upN j l))], Ob g46 (.cells #[.slice q2 pr.length d2] 22 (0, 0))]) (fun wx => S wx [Big [Old w no, Rw 9 1 q1 (upN j l).length d1 (stV (upN j l))]]) [10] (by kernel_rfl) (by kernel_rfl) (fun ⟨_, _, h⟩ => h) H58 (fun wq59 H60 => ?_)
            refine y_take (v := .slice q2 pr.length d2) 0 rfl (wt0 rfl) rfl rfl rfl (by kernel_rfl) (by kernel_rfl) (by kernel_rfl) (by kernel_rfl) (by kernel_rfl) (H60.mask [true, false, false, false, false, true, false]) (fun wx H => x_load1 H 1 rfl rfl Tryz.underlying22 rfl rfl rfl) ?_
            refine y_pure (v := .slice (q1.map fun q => q.add (2 * pr.length * 1)) 2 2) 1 rfl (wt0 rfl) rfl rfl rfl (by kernel_rfl) (by kernel_rfl) (by kernel_rfl) (by kernel_rfl) (fun wx => x_move rfl rfl) ?_
            refine y_pure (v := .pointer (((q1.map fun q => q.add (2 * pr.length * 1))).map fun q => q.add (0 * 1))) 2 rfl (wt0 rfl) rfl rfl rfl (by kernel_rfl) (by kernel_rfl) (by kernel_rfl) (by kernel_rfl) (fun wx => x_idxP 0 (hsm) rfl rfl rfl Tryz.underlying22 sz9 (by omega)) ?_
            refine y_take (v := .string (((upN j l).getD (2 * pr.length) ⟨#[]⟩))) 3 rfl (wt0 rfl) rfl rfl rfl (by kernel_rfl) (by kernel_rfl) (by kernel_rfl) (by kernel_rfl) (by kernel_rfl) (H60.mask [true, false, false, false, false, true, false]) (fun wx H => x_loadR1 0 (reads_two (hX2b _ (H.at (k := 0) rfl)) (by omega)) (by omega) rfl rfl Tryz.underlying9 rfl (rfl)) ?_
            refine y_pure (v := .slice (q1.map fun q => q.add (2 * pr.length * 1)) 2 2) 4 rfl (wt0 rfl) rfl rfl rfl (by kernel_rfl) (by kernel_rfl) (by kernel_rfl) (by kernel_rfl) (fun wx => x_move rfl rfl) ?_
            refine y_pure (v := .pointer (((q1.map fun q => q.add (2 * pr.length * 1))).map fun q => q.add (1 * 1))) 5 rfl (wt0 rfl) rfl rfl rfl (by kernel_rfl) (by kernel_rfl) (by kernel_rfl) (by kernel_rfl) (fun wx => x_idxP 1 (hsm) rfl rfl rfl Tryz.underlying22 sz9 (by omega)) ?_
            refine y_take (v := .string (((upN j l).getD (2 * pr.length + 1) ⟨#[]⟩))) 6 rfl (wt0 rfl) rfl rfl rfl (by kernel_rfl) (by kernel_rfl) (by kernel_rfl) (by kernel_rfl) (by kernel_rfl) (H60.mask [true, false, false, false, false, true, false]) (fun wx H => x_loadR1 1 (reads_two (hX2b _ (H.at (k := 0) rfl)) (by omega)) (by omega) rfl rfl Tryz.underlying9 rfl (rfl)) ?_
            refine y_one (i := 7) (by kernel_rfl) rfl ?_
            refine s_call (wt0 rfl) (x_call' rfl rfl cl28) (pair_h _ _ (by omega) _) ?_
            rintro _ wq61 ⟨rfl, H62⟩
            replace H62 : S wq61 [Big [Old w no, Rw 9 1 q1 (upN j l).length d1 (stV (upN j l))], I, Kx, Marks Ds, Mp placeV Value.string placeOk g9 (rowM (lowM V0 I0 l j) (V0 + j) b (upN j l) (upN j l).length), Ob g46 (.cells #[.slice q2 pr.length d2] 22 (0, 0)), Rw 9 1 q2 pr.length d2 (stV (upTo (upN j l) pr.length))] := H60.absorb (new := []) H62
            refine b_ret rfl rfl ?_
            refine y_k (H62.mask [true, false, false, false, false, true, false]) (H62.mask [true, false, false, false, false, false, false]) ?_
            refine y_one (i := 8) (by kernel_rfl) rfl ?_
            refine s_buildSlice H62 (wt0 rfl) rfl rfl rfl (vs := [.string ((pairS ((upN j l).getD (2 * pr.length) ⟨#[]⟩) ((upN j l).getD (2 * pr.length + 1) ⟨#[]⟩)))]) rfl Tryz.underlying22 sz9 ze9 rfl rfl (cells := #[.string ((pairS ((upN j l).getD (2 * pr.length) ⟨#[]⟩) ((upN j l).getD (2 * pr.length + 1) ⟨#[]⟩)))]) (by kernel_rfl) ?_
            intro g63 wq64 H65
            refine y_k (H65.mask [false, true, false, false, false, false, true, false]) (H65.mask [false, true, false, false, false, false, false, false]) ?_
            refine y_one (i := 9) (by kernel_rfl) rfl ?_
            refine s_appendR (n := pr.length) (m := 1) (sc := d2) (xs := (stV (upTo (upN j l) pr.length))) (news := [.string ((pairS ((upN j l).getD (2 * pr.length) ⟨#[]⟩) ((upN j l).getD (2 * pr.length + 1) ⟨#[]⟩)))]) (p := q2) (ad := ⟨g63, 0, none⟩) H65 7 (wt0 rfl) rfl rfl rfl rfl rfl rfl Tryz.underlying22 inf9 rfl (by decide) (by decide) rfl (by decide) (news_ob H65 (j0 := 0) rfl) rfl (by omega) ?_
            intro p66 c67 wq68 (H69 : S wq68 [Ob g63 (.cells #[.string ((pairS ((upN j l).getD (2 * pr.length) ⟨#[]⟩) ((upN j l).getD (2 * pr.length + 1) ⟨#[]⟩)))] 9 (0, 0)), Big [Old w no, Rw 9 1 q1 (upN j l).length d1 (stV (upN j l))], I, Kx, Marks Ds, Mp placeV Value.string placeOk g9 (rowM (lowM V0 I0 l j) (V0 + j) b (upN j l) (upN j l).length), Ob g46 (.cells #[.slice q2 pr.length d2] 22 (0, 0)), Rw 9 1 p66 (pr.length + 1) c67 ((stV (upTo (upN j l) pr.length)) ++ [.string ((pairS ((upN j l).getD (2 * pr.length) ⟨#[]⟩) ((upN j l).getD (2 * pr.length + 1) ⟨#[]⟩)))])])
            refine y_k (H69.mask [false, true, false, false, false, false, true, false]) (H69.mask [false, true, false, false, false, false, false, false]) ?_
            refine y_one (i := 10) (by kernel_rfl) rfl ?_
            refine s_store H69 6 (wt0 rfl) rfl rfl rfl rfl rfl sz22 rfl rfl (cs' := #[.slice p66 (pr.length + 1) c67]) rfl ?_
            intro wq70 H71
            refine y_kt rfl (H71.mask [false, true, false, false, false, false, false, false]) ?_
            refine y_done (by kernel_rfl) ?_
            refine g_in ?_
            have HF := H71.takes [1, 2, 3, 4, 5, 6, 7] (by decide)
            have e1 : (pr ++ [pr.length]).length = pr.length + 1 := by simp
            have e2 : stV (upTo (upN j l) (pr ++ [pr.length]).length) = stV (upTo (upN j l) pr.length) ++ [.string (pairS ((upN j l).getD (2 * pr.length) ⟨#[]⟩) ((upN j l).getD (2 * pr.length + 1) ⟨#[]⟩))] := by rw [e1, upTo_next, stV_snoc]
            exact rs_next ⟨p66, c67, rfl⟩ (by rw [e2, e1]; exact HF)
          · rintro D xs _ W72 rfl ⟨q2, d2, rfl⟩ H73
            rw [List.length_range] at H73
            have H74 := (H73.consMark (k := 1) rfl).unbig.takes [0, 2, 3, 4, 5] (by decide)
            replace H74 : S W72 [Old w no, Marks (D :: Ds), Mp placeV Value.string placeOk g9 (rowM (lowM V0 I0 l j) (V0 + j) b (upN j l) (upN j l).length), Ob g46 (.cells #[.slice q2 Q d2] 22 (0, 0)), Rw 9 1 q2 Q d2 (stV (upTo (upN j l) Q))] := H74
            refine g_in ?_
            refine g_then ?_
            refine R.g_region ?_
            refine R.l_of rfl (fun h => hL h) (s_val (v := .slice q2 Q d2) (wt0 rfl) rfl rfl (x_load1 H74 3 rfl rfl Tryz.underlying22 rfl rfl rfl) ?_)
            refine R.l_of rfl (fun h => hL h) (s_val (v := .int .i64 ((b : Int))) (wt0 rfl) rfl rfl (x_move rfl rfl) ?_)
            refine R.l_of rfl (fun h => hL h) (s_val (v := .int .i64 (((b / 2 : Nat) : Int))) (wt0 rfl) rfl rfl (x_bin rfl rfl rfl (b_quoN (a := b) (b := 2) (by omega))) ?_)
            refine R.l_of rfl (fun h => hL h) (s_val (v := .slice q2 Q d2) (wt0 rfl) rfl rfl (x_assign rfl rfl) ?_)
            refine R.l_of rfl (fun h => hL h) (s_val (v := .int .i64 (((b / 2 : Nat) : Int))) (wt0 rfl) rfl rfl (x_assign rfl rfl) ?_)
            refine R.g_nil ?_
            refine g_in ?_
            refine g_then ?_
            refine g_weak [(1, .string root), (2, .int .i64 ((V0 : Int))), (3, .int .i64 (((b / 2 : Nat) : Int))), (5, .slice q u.length d), (12, .map none), (13, .int .i64 ((((tallN l.length) : Nat) : Int))), (14, .map (some g9)), (15, .slice q2 Q d2), (16, .int .i64 (((V0 + j : Nat) : Int)))] ⟨rfl, rfl, rfl, rfl, rfl, rfl, rfl, rfl, rfl, trivial⟩ ?_
            refine R.g_region ?_
            refine R.l_of rfl (fun h => hL h) (s_val (v := .int .i64 (((V0 + j : Nat) : Int))) (wt0 rfl) rfl rfl (x_move rfl rfl) ?_)
            refine R.l_of rfl (fun h => hL h) (s_val (v := .int .i64 (((V0 + (j + 1) : Nat) : Int))) (wt0 rfl) rfl rfl (x_bin rfl rfl rfl (b_addN (a := V0 + j) (b := 1) (by omega))) ?_)
            refine R.l_of rfl (fun h => hL h) (s_val (v := .int .i64 (((V0 + (j + 1) : Nat) : Int))) (wt0 rfl) rfl rfl (x_assign rfl rfl) ?_)
            refine R.g_nil ?_
            refine g_then ?_
            have hup := upN_half hQ
            have hlq : (upN (j + 1) l).length = Q := by rw [hup, upTo_len]
            have hlen2 : (upN (j + 1) l).length = 2 ^ ((tallN l.length) - (j + 1)) := upN_len (j + 1) (tallN l.length) l (by rw [r5]) (by omega)
            have hlo : lowM V0 I0 l (j + 1) = rowM (lowM V0 I0 l j) (V0 + j) b (upN j l) (upN j l).length := by rw [hb]; rfl
            have H75 : S W72 [Mp placeV Value.string placeOk g9 (lowM V0 I0 l (j + 1)), Rw 9 1 q2 (upN (j + 1) l).length d2 (stV (upN (j + 1) l)), Marks (D :: Ds), Old w no] := by rw [hlo, hlq, hup]; exact H74.takes [2, 4, 1, 0] (by decide)
            rw [show (Value.slice q2 Q d2) = .slice q2 (upN (j + 1) l).length d2 from by rw [hlq]]
            refine g_roundD (i := (j, b, q1, d1, Ds)) (j + 1, b / 2, q2, d2, (D :: Ds)) ?_ rfl ?_ ?_
            · exact ⟨rfl, rfl, rfl, rfl, rfl, rfl, rfl, rfl, rfl, trivial⟩
            · exact ⟨by omega, hlen2, (by rw [hb, Nat.div_div_eq_div_mul, Nat.pow_succ]), (upN_digs hdl _), H75⟩
            · (try dsimp only); omega
    · skip
      refine R.l_of rfl (fun h => hL h) (s_call (wt0 rfl) (x_call' rfl rfl cl36) (fail_p _ _ (nt hb6) _) ?_)
      rintro _ wq76 ⟨rfl, H77⟩
      replace H77 : S wq76 [Ob g1 (.cells #[.int .i64 n0, .int .i64 ((h : Int))] 65 (0, 0)), Marks [], Old w no] := H5.absorb (new := []) H77
      refine b_panic ?_
      refine g_then_panic ?_
      have H78 := H77.takes [1, 2] (by decide)
      have hpe : provE h root (V0 : Int) (I0 : Int) l u = 11 := by unfold provE; rw [if_pos hrt, if_neg (by omega)]
      refine fin_panicM H78 (fun W' hW => .inr ⟨by rw [hpe]; decide, by rw [hpe], hW⟩)
  · skip
    rw [show runV h v i (l.length : Int) = .panicked [{ v := .iface 105 (.int .i64 7), recovered := false }] from if_neg hrt]
    refine b_panic ?_
    refine g_then_panic ?_
    have H79 := H5.takes [1, 2] (by decide)
    have hpe : provE h root v i l u = 7 := by unfold provE; rw [if_neg hrt]
    refine fin_panicM H79 (fun W' hW => .inr ⟨by rw [hpe]; decide, by rw [hpe], hW⟩)
end Go.Proofs.YtlajgickimgigaaGreat
