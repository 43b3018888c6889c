import Derived.Test.YtlajgickimgigaaTR
set_option linter.unusedSimpArgs false
set_option linter.unusedVariables false
namespace Go.Proofs.Ytlajgickimgigaa
open Go.RowKit

theorem b_xorN {P : Program} {t xo yo} {w : World} {a b : Nat} (h : a < 9223372036854775808 ∧ b < 9223372036854775808) : Bin P .xor t xo yo (.int .i64 (a : Int)) (.int .i64 (b : Int)) w (.int .i64 ((a ^^^ b : Nat) : Int)) := by
  refine b_bits (.inr (.inr (.inl rfl))) ?_
  have h2 : a ^^^ b < 2 ^ 63 := Nat.xor_lt_two_pow (by omega) (by omega)
  have e : (BitVec.ofInt IntKind.i64.bits (a : Int) ^^^ BitVec.ofInt IntKind.i64.bits (b : Int)).toNat = a ^^^ b := by
    show (BitVec.ofInt 64 (a : Int) ^^^ BitVec.ofInt 64 (b : Int)).toNat = _
    rw [ofInt_nat, ofInt_nat, BitVec.toNat_xor, BitVec.toNat_ofNat, BitVec.toNat_ofNat, Nat.mod_eq_of_lt (by omega), Nat.mod_eq_of_lt (by omega)]
  simp only [Op.intBits, e]
  rw [wrap_nat (by omega)]; rfl
def nodeS (v i : Nat) (l : List ByteArray) : ByteArray := if i < l.length then l.getD i ⟨#[]⟩ else zeroS v
theorem nodeS_size {v i : Nat} {l : List ByteArray} {B : Nat} (hB : 32 ≤ B) (h : ∀ s ∈ l, s.size ≤ B) : (nodeS v i l).size ≤ B := by
  unfold nodeS
  split
  · exact getD_size h (by assumption)
  · rw [zeroS_size]; exact hB
set_option maxRecDepth 20000 in
set_option maxHeartbeats 4000000 in
theorem width_s (n : Int) (h v : Nat) (hv : v ≤ h) (hh : h ≤ 60) (w : World) : Calls Try.prog 93 #[.agg #[.int .i64 n, .int .i64 ((h : Int))], .int .i64 ((v : Int))] w fun e w' => e = .returned (.int .i64 ((2 ^ (h - v) : Nat) : Int)) ∧ S w' [Old w no] := by
  have H0 := S.old w
  refine enter 10 Try.func93 rfl rfl rfl ?_
  refine g_weak [(0, .agg #[.int .i64 n, .int .i64 ((h : Int))]), (1, .int .i64 ((v : Int)))] ⟨rfl, rfl, trivial⟩ ?_
  refine g_seq ?_
  refine g_region ?_
  refine l_of (s_box H0 (wt0 rfl) rfl rfl rfl rfl ?_)
  intro g1 wq2 H3
  refine l_of (s_val (v := .int .i64 0) (wt0 rfl) rfl rfl (x_assign rfl rfl) ?_)
  refine g_nil ?_
  refine g_then ?_
  refine g_seq ?_
  refine g_region ?_
  refine l_of (s_val (v := .pointer (some ⟨g1, 1, none⟩)) (wt0 rfl) rfl rfl (x_fieldAddr rfl rfl fo66_1 rfl) ?_)
  refine l_of (s_val (v := .int .i64 ((h : Int))) (wt0 rfl) rfl rfl (x_load1 H3 0 rfl rfl Try.underlying3 rfl rfl rfl) ?_)
  refine l_of (s_val (v := .int .i64 ((v : Int))) (wt0 rfl) rfl rfl (x_move rfl rfl) ?_)
  refine l_of (s_val (v := .int .i64 (((h - v : Nat) : Int))) (wt0 rfl) rfl rfl (x_bin rfl rfl rfl (b_subN (a := h) (b := v) (by omega))) ?_)
  refine l_of (s_val (v := .int .i64 (((2 ^ (h - v) : Nat) : Int))) (wt0 rfl) rfl rfl (x_bin rfl rfl rfl (b_shl1 (h := h - v) (by omega))) ?_)
  refine l_of (s_val (v := .int .i64 (((2 ^ (h - v) : Nat) : Int))) (wt0 rfl) rfl rfl (x_assign rfl rfl) ?_)
  refine g_nil ?_
  refine g_then ?_
  refine g_ret ?_
  refine fin_ret [.tmp 4] [.int .i64 (((2 ^ (h - v) : Nat) : Int))] rfl ⟨rfl, trivial⟩ ?_
  exact ⟨rfl, H3.mask [false, true]⟩
set_option maxRecDepth 20000 in
set_option maxHeartbeats 4000000 in
set_option maxRecDepth 20000 in
set_option maxHeartbeats 4000000 in
theorem node_s (v i : Nat) (l : List ByteArray) (p : Option Addr) (n c : Nat) (hn : n = l.length) (hv : v ≤ 1000) (w : World) (hr : Reads w p n c 1 (stV l)) : Calls Try.prog 73 #[.int .i64 (v : Int), .int .i64 (i : Int), .slice p n c] w fun e w' => e = .returned (.string (nodeS v i l)) ∧ S w' [Old w no] := by
  have H0 := S.old w
  refine enter 17 Try.func73 rfl rfl rfl ?_
  refine g_weak [(0, .int .i64 ((v : Int))), (1, .int .i64 ((i : Int))), (2, .slice p n c)] ⟨rfl, rfl, rfl, trivial⟩ ?_
  refine g_seq ?_
  refine g_region ?_
  refine l_of (s_val (v := .string (⟨#[]⟩)) (wt0 rfl) rfl rfl (x_assign rfl rfl) ?_)
  refine g_nil ?_
  refine g_then ?_
  refine g_seq ?_
  refine g_seq ?_
  refine g_region ?_
  refine l_of (s_val (v := .int .i64 ((i : Int))) (wt0 rfl) rfl rfl (x_move rfl rfl) ?_)
  refine l_of (s_val (v := .slice p n c) (wt0 rfl) rfl rfl (x_move rfl rfl) ?_)
  refine l_of (s_val (v := .int .i64 ((n : Int))) (wt0 rfl) rfl rfl (x_lenl rfl rfl Try.underlying22) ?_)
  refine l_of (s_val (v := .bool (decide (((i : Int) : Int) < (n : Int)))) (wt0 rfl) rfl rfl (x_bin rfl rfl rfl b_lss) ?_)
  refine g_nil ?_
  refine g_then ?_
  by_cases hb1 : ((i : Int) : Int) < (n : Int)
  · skip
    refine g_cond_t rfl (decide_eq_true hb1) ?_
    refine g_seq ?_
    refine g_region ?_
    refine l_of (s_val (v := .slice p n c) (wt0 rfl) rfl rfl (x_move rfl rfl) ?_)
    refine l_of (s_val (v := .int .i64 ((i : Int))) (wt0 rfl) rfl rfl (x_move rfl rfl) ?_)
    refine l_of (s_val (v := .pointer ((p).map fun q => q.add (i * 1))) (wt0 rfl) rfl rfl (x_idxR i (H0.oldReads (k := 0) rfl hr) rfl rfl rfl Try.underlying22 sz9 (by omega)) ?_)
    refine l_of (s_val (v := .string ((l.getD (i) ⟨#[]⟩))) (wt0 rfl) rfl rfl (x_loadR1 i (H0.oldReads (k := 0) rfl hr) (by omega) rfl rfl Try.underlying9 rfl (stV_at (by omega))) ?_)
    refine l_of (s_val (v := .string ((l.getD (i) ⟨#[]⟩))) (wt0 rfl) rfl rfl (x_assign rfl rfl) ?_)
    refine g_nil ?_
    refine g_then ?_
    refine g_ret ?_
    refine g_then_ret ?_
    refine fin_ret [.tmp 6] [.string ((l.getD (i) ⟨#[]⟩))] rfl ⟨rfl, trivial⟩ ?_
    exact ⟨by unfold nodeS; rw [if_pos (by omega)]; rfl, H0.mask [true]⟩
  · skip
    refine g_cond_f rfl (decide_eq_false hb1) ?_
    refine g_skip ?_
    refine g_then ?_
    refine g_seq ?_
    refine g_region ?_
    refine l_of (s_val (v := .int .i64 ((v : Int))) (wt0 rfl) rfl rfl (x_move rfl rfl) ?_)
    refine l_of (s_call (wt0 rfl) (x_call' rfl rfl cl58) (zero_s _ (by omega) _) ?_)
    rintro _ wq2 ⟨rfl, H3⟩
    replace H3 : S wq2 [Old w no] := H0.absorb (new := []) H3
    refine b_ret rfl rfl ?_
    refine l_of (s_val (v := .string ((zeroS v))) (wt0 rfl) rfl rfl (x_assign rfl rfl) ?_)
    refine g_nil ?_
    refine g_then ?_
    refine g_ret ?_
    refine fin_ret [.tmp 6] [.string ((zeroS v))] rfl ⟨rfl, trivial⟩ ?_
    exact ⟨by unfold nodeS; rw [if_neg (by omega)]; rfl, H3.mask [true]⟩
end Go.Proofs.Ytlajgickimgigaa
