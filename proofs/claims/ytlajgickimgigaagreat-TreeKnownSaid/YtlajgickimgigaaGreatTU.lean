import Derived.Test.YtlajgickimgigaaGreatTQ
set_option linter.unusedSimpArgs false
set_option linter.unusedVariables false
namespace Go.Proofs.YtlajgickimgigaaGreat
open Go.RowKit

theorem cl31 : callable Tryz.prog 31 = true := by kernel_rfl
/-- What is wrong with leaves. -/
def checkE (l : List ByteArray) : Int := if l.length = 0 then 1 else if digsB l = true then (if 4096 < l.length then 4 else 0) else 1
def openV (l : List ByteArray) : Ending := if checkE l = 0 then .returned (.agg #[.int .i64 (l.length : Int), .int .i64 ((tallN l.length : Nat) : Int)]) else .panicked [{ v := .iface 105 (.int .i64 (checkE l)), recovered := false }]
theorem check_ok {l : List ByteArray} (h1 : ¬ l.length = 0) (hd : digsB l = true) (h : ¬ 4096 < l.length) : checkE l = 0 := by unfold checkE; rw [if_neg h1, if_pos hd, if_neg h]
theorem check_4 {l : List ByteArray} (h1 : ¬ l.length = 0) (hd : digsB l = true) (h : 4096 < l.length) : checkE l = 4 := by unfold checkE; rw [if_neg h1, if_pos hd, if_pos h]
theorem check_1 {l : List ByteArray} (h : l.length = 0 ∨ digsB l = false) : checkE l = 1 := by
  unfold checkE
  split
  · rfl
  · rcases h with h | h
    · contradiction
    · rw [if_neg (by rw [h]; exact Bool.false_ne_true)]
theorem check_spec {l : List ByteArray} (h : checkE l = 0) : 1 ≤ l.length ∧ l.length ≤ 4096 ∧ digsB l = true := by
  unfold checkE at h
  split at h
  · omega
  · split at h
    · split at h
      · omega
      · exact ⟨by omega, by omega, by assumption⟩
    · omega
set_option maxRecDepth 20000 in
set_option maxHeartbeats 4000000 in
set_option maxRecDepth 20000 in
set_option maxHeartbeats 4000000 in
theorem open_s (l : List ByteArray) (p : Option Addr) (n c : Nat) (hn : n = l.length) (hm : n ≤ 1099511627776) (w : World) (hr : Reads w p n c 1 (stV l)) : Calls Tryz.prog 31 #[.slice p n c] w fun e w' => e = openV l ∧ S w' [Old w no] := by
  have H0 := S.old w
  refine enter 19 Tryz.func31 rfl rfl rfl ?_
  refine g_weak [(0, .slice p n c)] ⟨rfl, trivial⟩ ?_
  refine g_seq ?_
  refine g_region ?_
  refine l_of (s_alloc H0 (wt0 rfl) rfl rfl rfl ze65 ?_)
  intro g1 wq2 H3
  refine g_nil ?_
  refine g_then ?_
  refine g_seq ?_
  refine g_region ?_
  refine l_of (s_val (v := .slice p n c) (wt0 rfl) rfl rfl (x_move rfl rfl) ?_)
  refine l_of (s_val (v := .int .i64 ((n : Int))) (wt0 rfl) rfl rfl (x_lenl rfl rfl Tryz.underlying22) ?_)
  refine l_of (s_val (v := .bool (decide (((n : Int) : Int) = 0))) (wt0 rfl) rfl rfl (x_bin rfl rfl rfl b_eql) ?_)
  refine l_of (s_val (v := .bool (decide (((n : Int) : Int) = 0))) (wt0 rfl) rfl rfl (x_move rfl rfl) ?_)
  by_cases hb4 : ((n : Int) : Int) = 0
  · skip
    refine l_of (s_not (wn1 rfl rfl rfl rfl (decide_eq_true hb4)) rfl rfl ?_)
    refine l_of (s_not (wn1 rfl rfl rfl rfl (decide_eq_true hb4)) rfl rfl ?_)
    refine l_of (s_not (wn1 rfl rfl rfl rfl (decide_eq_true hb4)) rfl rfl ?_)
    refine l_of (s_val (v := .bool true) (wt0 rfl) rfl rfl (x_pick_t rfl rfl (decide_eq_true hb4) rfl) ?_)
    refine l_of (s_call (wt0 rfl) (x_call' rfl rfl cl36) (fail_p _ _ rfl _) ?_)
    rintro _ wq5 ⟨rfl, H6⟩
    replace H6 : S wq5 [Ob g1 (.cells #[.int .i64 0, .int .i64 0] 65 (0, 0)), Old w no] := H3.absorb (new := []) H6
    refine b_panic ?_
    refine g_then_panic ?_
    refine fin_panic ?_
    exact ⟨by unfold openV; rw [check_1 (.inl (by omega))]; rfl, H6.mask [false, true]⟩
  · skip
    refine l_of (s_val (v := .slice p n c) (wt1 rfl rfl rfl rfl (decide_eq_false hb4)) rfl rfl (x_move rfl rfl) ?_)
    refine l_of (s_call (wt1 rfl rfl rfl rfl (decide_eq_false hb4)) (x_call' rfl rfl cl46) (digests_s l p n c hn hm _ (H3.oldReads (k := 1) rfl hr)) ?_)
    rintro _ wq7 ⟨rfl, H8⟩
    replace H8 : S wq7 [Ob g1 (.cells #[.int .i64 0, .int .i64 0] 65 (0, 0)), Old w no] := H3.absorb (new := []) H8
    refine b_ret rfl rfl ?_
    refine l_of (s_val (v := .bool (!((digsB l)))) (wt1 rfl rfl rfl rfl (decide_eq_false hb4)) rfl rfl (x_not (b := (digsB l)) rfl rfl) ?_)
    refine l_of (s_val (v := .bool (!((digsB l)))) (wt0 rfl) rfl rfl (x_pick_f rfl rfl (decide_eq_false hb4) rfl) ?_)
    rcases Bool.eq_false_or_eq_true ((digsB l)) with hb9 | hb9
    · skip
      refine l_of (s_call (wt0 rfl) (x_call' rfl rfl cl36) (fail_r _ _ (neg_of hb9) _) ?_)
      rintro _ wq10 ⟨rfl, H11⟩
      replace H11 : S wq10 [Ob g1 (.cells #[.int .i64 0, .int .i64 0] 65 (0, 0)), Old w no] := H8.absorb (new := []) H11
      refine b_ret rfl rfl ?_
      refine g_nil ?_
      refine g_then ?_
      refine g_seq ?_
      refine g_region ?_
      refine l_of (s_val (v := .slice p n c) (wt0 rfl) rfl rfl (x_move rfl rfl) ?_)
      refine l_of (s_val (v := .int .i64 ((n : Int))) (wt0 rfl) rfl rfl (x_lenl rfl rfl Tryz.underlying22) ?_)
      refine l_of (s_val (v := .bool (decide ((4096 : Int) < (n : Int)))) (wt0 rfl) rfl rfl (x_bin rfl rfl rfl b_gtr) ?_)
      by_cases hb12 : (4096 : Int) < (n : Int)
      · skip
        refine l_of (s_call (wt0 rfl) (x_call' rfl rfl cl36) (fail_p _ _ (decide_eq_true hb12) _) ?_)
        rintro _ wq13 ⟨rfl, H14⟩
        replace H14 : S wq13 [Ob g1 (.cells #[.int .i64 0, .int .i64 0] 65 (0, 0)), Old w no] := H11.absorb (new := []) H14
        refine b_panic ?_
        refine g_then_panic ?_
        refine fin_panic ?_
        exact ⟨by unfold openV; rw [check_4 (by omega) hb9 (by omega)]; rfl, H14.mask [false, true]⟩
      · skip
        refine l_of (s_call (wt0 rfl) (x_call' rfl rfl cl36) (fail_r _ _ (decide_eq_false hb12) _) ?_)
        rintro _ wq15 ⟨rfl, H16⟩
        replace H16 : S wq15 [Ob g1 (.cells #[.int .i64 0, .int .i64 0] 65 (0, 0)), Old w no] := H11.absorb (new := []) H16
        refine b_ret rfl rfl ?_
        refine g_nil ?_
        refine g_then ?_
        refine g_weak [(0, .slice p n c), (2, .pointer (some ⟨g1, 0, none⟩))] ⟨rfl, rfl, trivial⟩ ?_
        refine g_seq ?_
        refine g_region ?_
        refine l_of (s_val (v := .slice p n c) (wt0 rfl) rfl rfl (x_move rfl rfl) ?_)
        refine l_of (s_val (v := .int .i64 ((n : Int))) (wt0 rfl) rfl rfl (x_lenl rfl rfl Tryz.underlying22) ?_)
        refine l_of (s_call (wt0 rfl) (x_call' rfl rfl cl37) (formed_r _ (by omega) (by omega) _) ?_)
        rintro _ wq17 ⟨rfl, H18⟩
        replace H18 : S wq17 [Ob g1 (.cells #[.int .i64 0, .int .i64 0] 65 (0, 0)), Old w no] := H16.absorb (new := []) H18
        refine b_ret rfl rfl ?_
        refine l_of (s_store H18 0 (wt0 rfl) rfl rfl rfl rfl rfl sz65 rfl rfl (cs' := #[.int .i64 ((n : Int)), .int .i64 (((tallN n : Nat) : Int))]) rfl ?_)
        intro wq19 H20
        refine g_nil ?_
        refine g_then ?_
        refine g_ret ?_
        refine fin_ret [.cell 2 65] [.agg #[.int .i64 ((n : Int)), .int .i64 (((tallN n : Nat) : Int))]] rfl ⟨⟨_, rfl, run_loadA (H20.ob (k := 0) rfl) Tryz.underlying65 rfl sz65 rfl rfl⟩, trivial⟩ ?_
        exact ⟨by unfold openV; rw [if_pos (check_ok (by omega) hb9 (by omega)), ← hn]; rfl, H20.mask [false, true]⟩
    · skip
      refine l_of (s_call (wt0 rfl) (x_call' rfl rfl cl36) (fail_p _ _ (neg_of hb9) _) ?_)
      rintro _ wq21 ⟨rfl, H22⟩
      replace H22 : S wq21 [Ob g1 (.cells #[.int .i64 0, .int .i64 0] 65 (0, 0)), Old w no] := H8.absorb (new := []) H22
      refine b_panic ?_
      refine g_then_panic ?_
      refine fin_panic ?_
      exact ⟨by unfold openV; rw [check_1 (.inr hb9)]; rfl, H22.mask [false, true]⟩
def rootS (l : List ByteArray) : ByteArray × Int := if checkE l = 0 then ((lvlS 0 l (tallN l.length)).getD 0 ⟨#[]⟩, 0) else (⟨#[]⟩, checkE l)
set_option maxRecDepth 20000 in
set_option maxHeartbeats 4000000 in
set_option maxRecDepth 20000 in
set_option maxHeartbeats 4000000 in
theorem root_s (l : List ByteArray) (p : Option Addr) (n c : Nat) (hn : n = l.length) (hm : n ≤ 1099511627776) (w : World) (hr : Reads w p n c 1 (stV l)) : Calls Tryz.prog 6 #[.slice p n c] w fun e w' => e = .returned (.tuple #[.string (rootS l).1, .int .i64 (rootS l).2]) ∧ S w' [Old w no] := by
  have H0 := S.old w
  refine enter_d 13 Tryz.func6 rfl rfl rfl ?_
  refine g_weak [(0, .slice p n c)] ⟨rfl, trivial⟩ ?_
  refine g_seq ?_
  refine g_region ?_
  refine l_of (s_val (v := .string (⟨#[]⟩)) (wt0 rfl) rfl rfl (x_assign rfl rfl) ?_)
  refine l_of (s_alloc H0 (wt0 rfl) rfl rfl rfl ze26 ?_)
  intro g1 wq2 H3
  refine g_nil ?_
  refine g_then ?_
  refine g_seq ?_
  refine g_region ?_
  refine l_of (s_defer (wt0 rfl) rfl (xd_defer rfl rfl rfl) ?_)
  refine g_nil ?_
  refine g_then ?_
  refine g_seq ?_
  refine g_region ?_
  refine l_of (s_val (v := .slice p n c) (wt0 rfl) rfl rfl (x_move rfl rfl) ?_)
  refine l_of (s_call (wt0 rfl) (x_call' rfl rfl cl31) (open_s l p n c hn hm _ (H3.oldReads (k := 1) rfl hr)) ?_)
  rintro _ wq4 ⟨rfl, H5⟩
  replace H5 : S wq4 [Ob g1 (.cells #[.int .i64 0] 26 (0, 0)), Old w no] := H3.absorb (new := []) H5
  by_cases hce : checkE l = 0
  · skip
    rw [show openV l = .returned (.agg #[.int .i64 ((l.length : Int)), .int .i64 (((tallN l.length : Nat) : Int))]) from if_pos hce]
    obtain ⟨hc1, hc2, hc3⟩ := check_spec hce
    have ht12 := tall_le12 hc2
    refine b_ret rfl rfl ?_
    refine l_of (s_alloc H5 (wt0 rfl) rfl rfl rfl ze65 ?_)
    intro g6 wq7 H8
    refine l_of (s_store H8 0 (wt0 rfl) rfl rfl rfl rfl rfl sz65 rfl rfl (cs' := #[.int .i64 ((l.length : Int)), .int .i64 (((tallN l.length : Nat) : Int))]) rfl ?_)
    intro wq9 H10
    refine g_nil ?_
    refine g_then ?_
    refine g_seq ?_
    refine g_region ?_
    refine l_of (s_val (v := .pointer (some ⟨g6, 1, none⟩)) (wt0 rfl) rfl rfl (x_fieldAddr rfl rfl fo65_1 rfl) ?_)
    refine l_of (s_val (v := .int .i64 (((tallN l.length : Nat) : Int))) (wt0 rfl) rfl rfl (x_load1 H10 0 rfl rfl Tryz.underlying3 rfl rfl rfl) ?_)
    refine l_of (s_val (v := .slice p n c) (wt0 rfl) rfl rfl (x_move rfl rfl) ?_)
    have hl0 := lvlS_count (n := l.length) (v := 0) (l := l) (by unfold countN; rw [Nat.pow_zero, Nat.div_one]; omega) (tallN l.length)
    have hl1 := countN_pos l.length (0 + tallN l.length)
    have hlay := layer_s 0 (tallN l.length) l p n c hn (by omega) (by omega) (digs_size hc3) (by omega) wq9 (H10.oldReads (k := 2) rfl hr)
    rw [Nat.zero_add] at hlay
    refine l_of (s_call (wt0 rfl) (x_call' rfl rfl cl32) hlay ?_)
    rintro _ wq13 ⟨p11, c12, rfl, H14⟩
    replace H14 : S wq13 [Rw 9 1 p11 (lvlS 0 l (tallN l.length)).length c12 (stV (lvlS 0 l (tallN l.length))), Ob g6 (.cells #[.int .i64 ((l.length : Int)), .int .i64 (((tallN l.length : Nat) : Int))] 65 (0, 0)), Ob g1 (.cells #[.int .i64 0] 26 (0, 0)), Old w no] := H10.absorb (new := [Rw 9 1 p11 (lvlS 0 l (tallN l.length)).length c12 (stV (lvlS 0 l (tallN l.length)))]) H14
    refine b_ret rfl rfl ?_
    refine l_of (s_val (v := .pointer ((p11).map fun q => q.add (0 * 1))) (wt0 rfl) rfl rfl (x_idxR 0 (H14.rwReads (k := 0) rfl) rfl rfl rfl Tryz.underlying22 sz9 (by omega)) ?_)
    refine l_of (s_val (v := .string (((lvlS 0 l (tallN l.length)).getD (0) ⟨#[]⟩))) (wt0 rfl) rfl rfl (x_loadR1 0 (H14.rwReads (k := 0) rfl) (by omega) rfl rfl Tryz.underlying9 rfl (stV_at (by omega))) ?_)
    refine l_of (s_val (v := .string (((lvlS 0 l (tallN l.length)).getD (0) ⟨#[]⟩))) (wt0 rfl) rfl rfl (x_assign rfl rfl) ?_)
    refine l_of (s_store H14 2 (wt0 rfl) rfl rfl rfl rfl rfl sz26 rfl rfl (cs' := #[.int .i64 0]) rfl ?_)
    intro wq15 H16
    refine g_nil ?_
    refine g_then ?_
    refine g_ret ?_
    refine fin_dret ?_
    refine gl_step (by simp) cl30 (caught_n g1 _) ?_
    rintro _ _ wq17 ⟨⟨rfl, H18⟩, rfl⟩
    replace H18 : S wq17 [Rw 9 1 p11 (lvlS 0 l (tallN l.length)).length c12 (stV (lvlS 0 l (tallN l.length))), Ob g6 (.cells #[.int .i64 ((l.length : Int)), .int .i64 (((tallN l.length : Nat) : Int))] 65 (0, 0)), Ob g1 (.cells #[.int .i64 0] 26 (0, 0)), Old w no] := H16.absorb (new := []) H18
    refine (?_ : GL _ _ _ _ _ _ FrameMode.returning _)
    refine gl_ret [.tmp 2, .cell 3 26] [.string (((lvlS 0 l (tallN l.length)).getD (0) ⟨#[]⟩)), .int .i64 0] rfl ⟨rfl, ⟨_, rfl, run_load1 Tryz.underlying26 rfl (H18.cell (k := 2) rfl rfl)⟩, trivial⟩ ?_
    exact ⟨by unfold rootS; rw [if_pos hce]; rfl, H18.mask [false, false, false, true]⟩
  · skip
    rw [show openV l = .panicked [{ v := .iface 105 (.int .i64 (checkE l)), recovered := false }] from if_neg hce]
    refine b_panic ?_
    refine g_then_panic ?_
    refine fin_dpanic ?_
    refine gl_step (by simp) cl30 (caught_p g1 ((checkE l)) (0) [] _ (H5.ob (k := 0) rfl)) ?_
    rintro _ _ wq19 ⟨⟨rfl, H20⟩, rfl⟩
    replace H20 : S wq19 [Ob g1 (.cells #[.int .i64 ((checkE l))] 26 (0, 0)), Old w no] := H5.absorbK (new := [Ob g1 (.cells #[.int .i64 ((checkE l))] 26 (0, 0))]) [0] (by intro g hg; subst hg; exact ⟨0, rfl, _, rfl, rfl⟩) H20
    refine (?_ : GL _ _ _ _ _ _ FrameMode.returning _)
    refine gl_ret [.tmp 2, .cell 3 26] [.string (⟨#[]⟩), .int .i64 ((checkE l))] rfl ⟨rfl, ⟨_, rfl, run_load1 Tryz.underlying26 rfl (H20.cell (k := 0) rfl rfl)⟩, trivial⟩ ?_
    exact ⟨by unfold rootS; rw [if_neg hce]; rfl, H20.mask [false, true]⟩
end Go.Proofs.YtlajgickimgigaaGreat
namespace Go.Proofs.YtlajgickimgigaaGreat
open Go.RowKit

theorem b_xorN {P : Program} {t xo yo} {w : World} {a b : Nat} (h : a < 9223372036854775808 ∧ b < 9223372036854775808) : Bin P .xor t xo yo (.int .i64 (a : Int)) (.int .i64 (b : Int)) w (.int .i64 ((a ^^^ b : Nat) : Int)) := by
  refine b_bits (.inr (.inr (.inl rfl))) ?_
  have h2 : a ^^^ b < 2 ^ 63 := Nat.xor_lt_two_pow (by omega) (by omega)
  have e : (BitVec.ofInt IntKind.i64.bits (a : Int) ^^^ BitVec.ofInt IntKind.i64.bits (b : Int)).toNat = a ^^^ b := by
    show (BitVec.ofInt 64 (a : Int) ^^^ BitVec.ofInt 64 (b : Int)).toNat = _
    rw [ofInt_nat, ofInt_nat, BitVec.toNat_xor, BitVec.toNat_ofNat, BitVec.toNat_ofNat, Nat.mod_eq_of_lt (by omega), Nat.mod_eq_of_lt (by omega)]
  simp only [Op.intBits, e]
  rw [wrap_nat (by omega)]; rfl
def nodeS (v i : Nat) (l : List ByteArray) : ByteArray := if i < l.length then l.getD i ⟨#[]⟩ else zeroS v
theorem nodeS_size {v i : Nat} {l : List ByteArray} {B : Nat} (hB : 32 ≤ B) (h : ∀ s ∈ l, s.size ≤ B) : (nodeS v i l).size ≤ B := by
  unfold nodeS
  split
  · exact getD_size h (by assumption)
  · rw [zeroS_size]; exact hB
set_option maxRecDepth 20000 in
set_option maxHeartbeats 4000000 in
theorem width_s (n : Int) (h v : Nat) (hv : v ≤ h) (hh : h ≤ 60) (w : World) : Calls Tryz.prog 78 #[.agg #[.int .i64 n, .int .i64 ((h : Int))], .int .i64 ((v : Int))] w fun e w' => e = .returned (.int .i64 ((2 ^ (h - v) : Nat) : Int)) ∧ S w' [Old w no] := by
  have H0 := S.old w
  refine enter 10 Tryz.func78 rfl rfl rfl ?_
  refine g_weak [(0, .agg #[.int .i64 n, .int .i64 ((h : Int))]), (1, .int .i64 ((v : Int)))] ⟨rfl, rfl, trivial⟩ ?_
  refine g_seq ?_
  refine g_region ?_
  refine l_of (s_box H0 (wt0 rfl) rfl rfl rfl rfl ?_)
  intro g1 wq2 H3
  refine l_of (s_val (v := .int .i64 0) (wt0 rfl) rfl rfl (x_assign rfl rfl) ?_)
  refine g_nil ?_
  refine g_then ?_
  refine g_seq ?_
  refine g_region ?_
  refine l_of (s_val (v := .pointer (some ⟨g1, 1, none⟩)) (wt0 rfl) rfl rfl (x_fieldAddr rfl rfl fo65_1 rfl) ?_)
  refine l_of (s_val (v := .int .i64 ((h : Int))) (wt0 rfl) rfl rfl (x_load1 H3 0 rfl rfl Tryz.underlying3 rfl rfl rfl) ?_)
  refine l_of (s_val (v := .int .i64 ((v : Int))) (wt0 rfl) rfl rfl (x_move rfl rfl) ?_)
  refine l_of (s_val (v := .int .i64 (((h - v : Nat) : Int))) (wt0 rfl) rfl rfl (x_bin rfl rfl rfl (b_subN (a := h) (b := v) (by omega))) ?_)
  refine l_of (s_val (v := .int .i64 (((2 ^ (h - v) : Nat) : Int))) (wt0 rfl) rfl rfl (x_bin rfl rfl rfl (b_shl1 (h := h - v) (by omega))) ?_)
  refine l_of (s_val (v := .int .i64 (((2 ^ (h - v) : Nat) : Int))) (wt0 rfl) rfl rfl (x_assign rfl rfl) ?_)
  refine g_nil ?_
  refine g_then ?_
  refine g_ret ?_
  refine fin_ret [.tmp 4] [.int .i64 (((2 ^ (h - v) : Nat) : Int))] rfl ⟨rfl, trivial⟩ ?_
  exact ⟨rfl, H3.mask [false, true]⟩
set_option maxRecDepth 20000 in
set_option maxHeartbeats 4000000 in
set_option maxRecDepth 20000 in
set_option maxHeartbeats 4000000 in
theorem node_s (v i : Nat) (l : List ByteArray) (p : Option Addr) (n c : Nat) (hn : n = l.length) (hv : v ≤ 1000) (w : World) (hr : Reads w p n c 1 (stV l)) : Calls Tryz.prog 83 #[.int .i64 (v : Int), .int .i64 (i : Int), .slice p n c] w fun e w' => e = .returned (.string (nodeS v i l)) ∧ S w' [Old w no] := by
  have H0 := S.old w
  refine enter 17 Tryz.func83 rfl rfl rfl ?_
  refine g_weak [(0, .int .i64 ((v : Int))), (1, .int .i64 ((i : Int))), (2, .slice p n c)] ⟨rfl, rfl, rfl, trivial⟩ ?_
  refine g_seq ?_
  refine g_region ?_
  refine l_of (s_val (v := .string (⟨#[]⟩)) (wt0 rfl) rfl rfl (x_assign rfl rfl) ?_)
  refine g_nil ?_
  refine g_then ?_
  refine g_seq ?_
  refine g_seq ?_
  refine g_region ?_
  refine l_of (s_val (v := .int .i64 ((i : Int))) (wt0 rfl) rfl rfl (x_move rfl rfl) ?_)
  refine l_of (s_val (v := .slice p n c) (wt0 rfl) rfl rfl (x_move rfl rfl) ?_)
  refine l_of (s_val (v := .int .i64 ((n : Int))) (wt0 rfl) rfl rfl (x_lenl rfl rfl Tryz.underlying22) ?_)
  refine l_of (s_val (v := .bool (decide (((i : Int) : Int) < (n : Int)))) (wt0 rfl) rfl rfl (x_bin rfl rfl rfl b_lss) ?_)
  refine g_nil ?_
  refine g_then ?_
  by_cases hb1 : ((i : Int) : Int) < (n : Int)
  · skip
    refine g_cond_t rfl (decide_eq_true hb1) ?_
    refine g_seq ?_
    refine g_region ?_
    refine l_of (s_val (v := .slice p n c) (wt0 rfl) rfl rfl (x_move rfl rfl) ?_)
    refine l_of (s_val (v := .int .i64 ((i : Int))) (wt0 rfl) rfl rfl (x_move rfl rfl) ?_)
    refine l_of (s_val (v := .pointer ((p).map fun q => q.add (i * 1))) (wt0 rfl) rfl rfl (x_idxR i (H0.oldReads (k := 0) rfl hr) rfl rfl rfl Tryz.underlying22 sz9 (by omega)) ?_)
    refine l_of (s_val (v := .string ((l.getD (i) ⟨#[]⟩))) (wt0 rfl) rfl rfl (x_loadR1 i (H0.oldReads (k := 0) rfl hr) (by omega) rfl rfl Tryz.underlying9 rfl (stV_at (by omega))) ?_)
    refine l_of (s_val (v := .string ((l.getD (i) ⟨#[]⟩))) (wt0 rfl) rfl rfl (x_assign rfl rfl) ?_)
    refine g_nil ?_
    refine g_then ?_
    refine g_ret ?_
    refine g_then_ret ?_
    refine fin_ret [.tmp 6] [.string ((l.getD (i) ⟨#[]⟩))] rfl ⟨rfl, trivial⟩ ?_
    exact ⟨by unfold nodeS; rw [if_pos (by omega)]; rfl, H0.mask [true]⟩
  · skip
    refine g_cond_f rfl (decide_eq_false hb1) ?_
    refine g_skip ?_
    refine g_then ?_
    refine g_seq ?_
    refine g_region ?_
    refine l_of (s_val (v := .int .i64 ((v : Int))) (wt0 rfl) rfl rfl (x_move rfl rfl) ?_)
    refine l_of (s_call (wt0 rfl) (x_call' rfl rfl cl71) (zero_s _ (by omega) _) ?_)
    rintro _ wq2 ⟨rfl, H3⟩
    replace H3 : S wq2 [Old w no] := H0.absorb (new := []) H3
    refine b_ret rfl rfl ?_
    refine l_of (s_val (v := .string ((zeroS v))) (wt0 rfl) rfl rfl (x_assign rfl rfl) ?_)
    refine g_nil ?_
    refine g_then ?_
    refine g_ret ?_
    refine fin_ret [.tmp 6] [.string ((zeroS v))] rfl ⟨rfl, trivial⟩ ?_
    exact ⟨by unfold nodeS; rw [if_neg (by omega)]; rfl, H3.mask [true]⟩
end Go.Proofs.YtlajgickimgigaaGreat
namespace Go.Proofs.YtlajgickimgigaaGreat
open Go.RowKit

theorem cl83 : callable Tryz.prog 83 = true := by kernel_rfl
theorem lvlS_pos {k : Nat} {l : List ByteArray} (h : 0 < l.length) : ∀ j, 0 < (lvlS k l j).length
  | 0 => h
  | j + 1 => by
    have := lvlS_pos (k := k) h j
    show 0 < (nextS (k + j) (lvlS k l j)).length
    rw [nextS_len']; omega
/-- A node's uncles, the first k. -/
def uncTo (l : List ByteArray) (v i k : Nat) : List ByteArray := (List.range k).map (fun j => nodeS (v + j) (i / 2 ^ j ^^^ 1) (lvlS 0 l (v + j)))
theorem uncTo_next (l : List ByteArray) (v i k : Nat) : uncTo l v i (k + 1) = uncTo l v i k ++ [nodeS (v + k) (i / 2 ^ k ^^^ 1) (lvlS 0 l (v + k))] := by unfold uncTo; simp [List.range_succ]
theorem uncTo_len (l : List ByteArray) (v i k : Nat) : (uncTo l v i k).length = k := by unfold uncTo; simp
theorem lvlS_one (l : List ByteArray) (m : Nat) : lvlS m (lvlS 0 l m) 1 = lvlS 0 l (m + 1) := by
  show nextS (m + 0) (lvlS 0 l m) = nextS (0 + m) (lvlS 0 l m)
  rw [Nat.zero_add]; rfl
theorem layer_next (m : Nat) (l : List ByteArray) (p : Option Addr) (c : Nat) (hl : 0 < l.length) (hm : l.length ≤ 4096) (hk : m + 1 ≤ 900) (hsz : ∀ s ∈ l, s.size ≤ 65536) (w : World) (hr : Reads w p (lvlS 0 l m).length c 1 (stV (lvlS 0 l m))) :
    Calls Tryz.prog 32 #[.int .i64 (m : Int), .int .i64 ((m + 1 : Nat) : Int), .slice p (lvlS 0 l m).length c] w fun e w' => ∃ p' c', e = .returned (.slice p' (lvlS 0 l (m + 1)).length c') ∧ S w' ([Rw 9 1 p' (lvlS 0 l (m + 1)).length c' (stV (lvlS 0 l (m + 1)))] ++ [Old w no]) := by
  have hle := lvlS_le 0 l m
  have := layer_s m 1 (lvlS 0 l m) p _ c rfl (by omega) hk (lvlS_size (by omega) hsz m) (lvlS_pos (lvlS_pos hl m) 1) w hr
  rw [lvlS_one] at this; exact this
theorem div_next (i k : Nat) : i / 2 ^ k / 2 = i / 2 ^ (k + 1) := by rw [Nat.div_div_eq_div_mul, Nat.pow_succ]
set_option maxRecDepth 20000 in
set_option maxHeartbeats 4000000 in
set_option maxRecDepth 20000 in
set_option maxHeartbeats 4000000 in
theorem uncles_s (x : Int) (v i h : Nat) (l : List ByteArray) (p : Option Addr) (n c : Nat) (hn : n = l.length) (h1 : 1 ≤ n) (hm : n ≤ 4096) (hv : v ≤ h) (hh : h ≤ 40) (hi : i ≤ 1099511627776) (hsz : ∀ s ∈ l, s.size ≤ 65536) (w : World) (hr : Reads w p n c 1 (stV l)) :
    Calls Tryz.prog 66 #[.agg #[.int .i64 x, .int .i64 (h : Int)], .slice p n c, .int .i64 (v : Int), .int .i64 (i : Int)] w fun e w' => ∃ p' c', e = .returned (.slice p' (h - v) c') ∧ S w' ([Rw 9 1 p' (h - v) c' (stV (uncTo l v i (h - v)))] ++ [Old w no]) := by
  have H0 := S.old w
  refine enter 36 Tryz.func66 rfl rfl rfl ?_
  refine g_weak [(0, .agg #[.int .i64 x, .int .i64 ((h : Int))]), (1, .slice p n c), (2, .int .i64 ((v : Int))), (3, .int .i64 ((i : Int)))] ⟨rfl, rfl, rfl, rfl, trivial⟩ ?_
  refine g_seq ?_
  refine g_region ?_
  refine l_of (s_box H0 (wt0 rfl) rfl rfl rfl rfl ?_)
  intro g1 wq2 H3
  refine l_of (s_val (v := .slice none 0 0) (wt0 rfl) rfl rfl (x_assign rfl rfl) ?_)
  refine g_nil ?_
  refine g_then ?_
  refine g_seq ?_
  refine g_region ?_
  have H4 : S wq2 [Rw 9 1 none 0 0 (stV (uncTo l v i 0)), Ob g1 (.cells #[.int .i64 x, .int .i64 ((h : Int))] 65 (0, 0)), Old w no] := H3.nilRw 9 1
  refine l_of (s_val (v := .slice none 0 0) (wt0 rfl) rfl rfl (x_assign rfl rfl) ?_)
  refine g_nil ?_
  refine g_then ?_
  refine g_seq ?_
  refine g_region ?_
  refine l_of (s_val (v := .int .i64 ((v : Int))) (wt0 rfl) rfl rfl (x_move rfl rfl) ?_)
  refine l_of (s_val (v := .slice p n c) (wt0 rfl) rfl rfl (x_move rfl rfl) ?_)
  have hlay := layer_s 0 v l p n c hn (by omega) (by omega) hsz (lvlS_pos (by omega) v) wq2 (H4.oldReads (k := 2) rfl hr)
  rw [Nat.zero_add] at hlay
  refine l_of (s_call (wt0 rfl) (x_call' rfl rfl cl32) (hlay) ?_)
  rintro _ wq7 ⟨p5, c6, rfl, H8⟩
  replace H8 : S wq7 [Rw 9 1 p5 (lvlS 0 l (v + 0)).length c6 (stV (lvlS 0 l (v + 0))), Rw 9 1 none 0 0 (stV (uncTo l v i 0)), Ob g1 (.cells #[.int .i64 x, .int .i64 ((h : Int))] 65 (0, 0)), Old w no] := H4.absorb (new := [Rw 9 1 p5 (lvlS 0 l (v + 0)).length c6 (stV (lvlS 0 l (v + 0)))]) H8
  refine b_ret rfl rfl ?_
  refine l_of (s_val (v := .slice p5 (lvlS 0 l (v + 0)).length c6) (wt0 rfl) rfl rfl (x_assign rfl rfl) ?_)
  refine g_nil ?_
  refine g_then ?_
  refine g_seq ?_
  refine g_block ?_
  have hi0 : i = i / 2 ^ 0 := by rw [Nat.pow_zero, Nat.div_one]
  rw [hi0]
  refine g_loop (ι := Nat × Option Addr × Nat × Option Addr × Nat) (fun (k, q, d, p1, c1) => [(2, .int .i64 (((v + k : Nat) : Int))), (3, .int .i64 (((i / 2 ^ k : Nat) : Int))), (4, .pointer (some ⟨g1, 0, none⟩)), (9, .slice q k d), (10, .slice p1 (lvlS 0 l (v + k)).length c1)]) (fun (k, q, d, p1, c1) wx => (v + k ≤ h) ∧ S wx [Rw 9 1 q k d (stV (uncTo l v i k)), Rw 9 1 p1 (lvlS 0 l (v + k)).length c1 (stV (lvlS 0 l (v + k))), Ob g1 (.cells #[.int .i64 x, .int .i64 ((h : Int))] 65 (0, 0)), Old w no]) (fun (k, q, d, p1, c1) => h - (v + k)) (0, none, 0, p5, c6) ⟨rfl, rfl, rfl, rfl, rfl, trivial⟩ ⟨hv, (H8.takes [1, 0, 2, 3] (by decide))⟩ ?_
  rintro ⟨k, q, d, p1, c1⟩ wq9 ⟨hk, H10⟩
  replace H10 : S wq9 [Rw 9 1 q k d (stV (uncTo l v i k)), Rw 9 1 p1 (lvlS 0 l (v + k)).length c1 (stV (lvlS 0 l (v + k))), Ob g1 (.cells #[.int .i64 x, .int .i64 ((h : Int))] 65 (0, 0)), Old w no] := H10
  refine g_weak [(2, .int .i64 (((v + k : Nat) : Int))), (3, .int .i64 (((i / 2 ^ k : Nat) : Int))), (4, .pointer (some ⟨g1, 0, none⟩)), (9, .slice q k d), (10, .slice p1 (lvlS 0 l (v + k)).length c1)] ⟨rfl, rfl, rfl, rfl, rfl, trivial⟩ ?_
  have hik : i / 2 ^ k ≤ i := Nat.div_le_self _ _
  refine g_seq ?_
  refine g_seq ?_
  refine g_region ?_
  refine l_of (s_val (v := .int .i64 (((v + k : Nat) : Int))) (wt0 rfl) rfl rfl (x_move rfl rfl) ?_)
  refine l_of (s_val (v := .pointer (some ⟨g1, 1, none⟩)) (wt0 rfl) rfl rfl (x_fieldAddr rfl rfl fo65_1 rfl) ?_)
  refine l_of (s_val (v := .int .i64 ((h : Int))) (wt0 rfl) rfl rfl (x_load1 H10 2 rfl rfl Tryz.underlying3 rfl rfl rfl) ?_)
  refine l_of (s_val (v := .bool (decide ((((v + k : Nat) : Int) : Int) < (h : Int)))) (wt0 rfl) rfl rfl (x_bin rfl rfl rfl b_lss) ?_)
  refine g_nil ?_
  refine g_then ?_
  by_cases hb11 : (((v + k : Nat) : Int) : Int) < (h : Int)
  · skip
    refine g_cond_t rfl (decide_eq_true hb11) ?_
    refine g_skip ?_
    refine g_then ?_
    refine g_seq ?_
    refine g_block ?_
    refine g_seq ?_
    refine g_region ?_
    refine l_of (s_val (v := .slice q k d) (wt0 rfl) rfl rfl (x_move rfl rfl) ?_)
    refine l_of (s_val (v := .int .i64 (((v + k : Nat) : Int))) (wt0 rfl) rfl rfl (x_move rfl rfl) ?_)
    refine l_of (s_val (v := .int .i64 (((i / 2 ^ k : Nat) : Int))) (wt0 rfl) rfl rfl (x_move rfl rfl) ?_)
    refine l_of (s_val (v := .int .i64 (((i / 2 ^ k ^^^ 1 : Nat) : Int))) (wt0 rfl) rfl rfl (x_bin rfl rfl rfl (b_xorN (a := i / 2 ^ k) (b := 1) (by omega))) ?_)
    refine l_of (s_val (v := .slice p1 (lvlS 0 l (v + k)).length c1) (wt0 rfl) rfl rfl (x_move rfl rfl) ?_)
    refine l_of (s_call (wt0 rfl) (x_call' rfl rfl cl83) (node_s _ _ _ _ _ _ rfl (by omega) _ (H10.rwReads (k := 1) rfl)) ?_)
    rintro _ wq12 ⟨rfl, H13⟩
    replace H13 : S wq12 [Rw 9 1 q k d (stV (uncTo l v i k)), Rw 9 1 p1 (lvlS 0 l (v + k)).length c1 (stV (lvlS 0 l (v + k))), Ob g1 (.cells #[.int .i64 x, .int .i64 ((h : Int))] 65 (0, 0)), Old w no] := H10.absorb (new := []) H13
    refine b_ret rfl rfl ?_
    refine l_of (s_buildSlice H13 (wt0 rfl) rfl rfl rfl (vs := [.string ((nodeS (v + k) (i / 2 ^ k ^^^ 1) (lvlS 0 l (v + k))))]) rfl Tryz.underlying22 sz9 ze9 rfl rfl (cells := #[.string ((nodeS (v + k) (i / 2 ^ k ^^^ 1) (lvlS 0 l (v + k))))]) (by kernel_rfl) ?_)
    intro g14 wq15 H16
    refine l_of (s_appendR (n := k) (m := 1) (sc := d) (xs := (stV (uncTo l v i k))) (news := [.string ((nodeS (v + k) (i / 2 ^ k ^^^ 1) (lvlS 0 l (v + k))))]) (p := q) (ad := ⟨g14, 0, none⟩) H16 1 (wt0 rfl) rfl rfl rfl rfl rfl rfl Tryz.underlying22 inf9 rfl (by decide) (by decide) rfl (by decide) (news_ob H16 (j0 := 0) rfl) rfl (by omega) ?_)
    intro p17 c18 wq19 (H20 : S wq19 [Ob g14 (.cells #[.string ((nodeS (v + k) (i / 2 ^ k ^^^ 1) (lvlS 0 l (v + k))))] 9 (0, 0)), Rw 9 1 p17 (k + 1) c18 ((stV (uncTo l v i k)) ++ [.string ((nodeS (v + k) (i / 2 ^ k ^^^ 1) (lvlS 0 l (v + k))))]), Rw 9 1 p1 (lvlS 0 l (v + k)).length c1 (stV (lvlS 0 l (v + k))), Ob g1 (.cells #[.int .i64 x, .int .i64 ((h : Int))] 65 (0, 0)), Old w no])
    refine l_of (s_val (v := .slice p17 (k + 1) c18) (wt0 rfl) rfl rfl (x_assign rfl rfl) ?_)
    refine g_nil ?_
    refine g_then ?_
    refine g_weak [(2, .int .i64 (((v + k : Nat) : Int))), (3, .int .i64 (((i / 2 ^ k : Nat) : Int))), (4, .pointer (some ⟨g1, 0, none⟩)), (9, .slice p17 (k + 1) c18), (10, .slice p1 (lvlS 0 l (v + k)).length c1)] ⟨rfl, rfl, rfl, rfl, rfl, trivial⟩ ?_
    refine g_seq ?_
    refine g_region ?_
    refine l_of (s_val (v := .int .i64 (((v + k : Nat) : Int))) (wt0 rfl) rfl rfl (x_move rfl rfl) ?_)
    refine l_of (s_val (v := .int .i64 (((v + k : Nat) : Int))) (wt0 rfl) rfl rfl (x_move rfl rfl) ?_)
    refine l_of (s_val (v := .int .i64 (((v + k + 1 : Nat) : Int))) (wt0 rfl) rfl rfl (x_bin rfl rfl rfl (b_addN (a := v + k) (b := 1) (by omega))) ?_)
    refine l_of (s_val (v := .slice p1 (lvlS 0 l (v + k)).length c1) (wt0 rfl) rfl rfl (x_move rfl rfl) ?_)
    refine l_of (s_call (wt0 rfl) (x_call' rfl rfl cl32) (layer_next (v + k) l _ _ (by omega) (by omega) (by omega) hsz _ (H20.rwReads (k := 2) rfl)) ?_)
    rintro _ wq23 ⟨p21, c22, rfl, H24⟩
    replace H24 : S wq23 [Rw 9 1 p21 (lvlS 0 l (v + (k + 1))).length c22 (stV (lvlS 0 l (v + (k + 1)))), Ob g14 (.cells #[.string ((nodeS (v + k) (i / 2 ^ k ^^^ 1) (lvlS 0 l (v + k))))] 9 (0, 0)), Rw 9 1 p17 (k + 1) c18 ((stV (uncTo l v i k)) ++ [.string ((nodeS (v + k) (i / 2 ^ k ^^^ 1) (lvlS 0 l (v + k))))]), Rw 9 1 p1 (lvlS 0 l (v + k)).length c1 (stV (lvlS 0 l (v + k))), Ob g1 (.cells #[.int .i64 x, .int .i64 ((h : Int))] 65 (0, 0)), Old w no] := H20.absorb (new := [Rw 9 1 p21 (lvlS 0 l (v + (k + 1))).length c22 (stV (lvlS 0 l (v + (k + 1))))]) H24
    refine b_ret rfl rfl ?_
    refine l_of (s_val (v := .slice p21 (lvlS 0 l (v + (k + 1))).length c22) (wt0 rfl) rfl rfl (x_assign rfl rfl) ?_)
    refine g_nil ?_
    refine g_then ?_
    refine g_region ?_
    refine l_of (s_val (v := .int .i64 (((i / 2 ^ k : Nat) : Int))) (wt0 rfl) rfl rfl (x_move rfl rfl) ?_)
    refine l_of (s_val (v := .int .i64 (((i / 2 ^ (k + 1) : Nat) : Int))) (wt0 rfl) rfl rfl (x_bin rfl rfl rfl (div_next i k ▸ b_quoN (a := i / 2 ^ k) (b := 2) (by omega))) ?_)
    refine l_of (s_val (v := .int .i64 (((i / 2 ^ (k + 1) : Nat) : Int))) (wt0 rfl) rfl rfl (x_assign rfl rfl) ?_)
    refine g_nil ?_
    refine g_in ?_
    refine g_then ?_
    refine g_region ?_
    refine l_of (s_val (v := .int .i64 (((v + k : Nat) : Int))) (wt0 rfl) rfl rfl (x_move rfl rfl) ?_)
    refine l_of (s_val (v := .int .i64 (((v + (k + 1) : Nat) : Int))) (wt0 rfl) rfl rfl (x_bin rfl rfl rfl (b_addN (a := v + k) (b := 1) (by omega))) ?_)
    refine l_of (s_val (v := .int .i64 (((v + (k + 1) : Nat) : Int))) (wt0 rfl) rfl rfl (x_assign rfl rfl) ?_)
    refine g_nil ?_
    refine g_then ?_
    refine g_round (i := (k, q, d, p1, c1)) (k + 1, p17, c18, p21, c22) ?_ ?_ ?_
    · exact ⟨rfl, rfl, rfl, rfl, rfl, trivial⟩
    · exact ⟨by omega, (by rw [uncTo_next, stV_snoc]; exact (H24.takes [2, 0, 4, 5] (by decide)))⟩
    · (try dsimp only); omega
  · skip
    refine g_cond_f rfl (decide_eq_false hb11) ?_
    refine g_exit ?_
    refine g_then_exit ?_
    refine g_then_exit ?_
    refine g_in_hit ?_
    refine g_then ?_
    refine g_seq ?_
    refine g_region ?_
    refine l_of (s_val (v := .slice q k d) (wt0 rfl) rfl rfl (x_move rfl rfl) ?_)
    refine l_of (s_val (v := .slice q k d) (wt0 rfl) rfl rfl (x_assign rfl rfl) ?_)
    refine g_nil ?_
    refine g_then ?_
    refine g_ret ?_
    refine fin_ret [.tmp 8] [.slice q k d] rfl ⟨rfl, trivial⟩ ?_
    have hkh : k = h - v := by omega
    subst hkh
    rw [← hi0]
    exact ⟨_, _, rfl, H10.takes [0, 3] (by decide)⟩
end Go.Proofs.YtlajgickimgigaaGreat
namespace Go.Proofs.YtlajgickimgigaaGreat
open Go.RowKit

theorem cl78 : callable Tryz.prog 78 = true := by kernel_rfl
def nodeOk (h : Nat) (v i : Int) : Bool := decide (0 ≤ v) && decide (v ≤ (h : Int)) && decide (0 ≤ i) && decide (i < ((2 ^ (h - v.toNat) : Nat) : Int))
theorem nodeOk_t {h : Nat} {v i : Int} (h1 : 0 ≤ v) (h2 : v ≤ (h : Int)) (h3 : 0 ≤ i) (h4 : i < ((2 ^ (h - v.toNat) : Nat) : Int)) : nodeOk h v i = true := by
  unfold nodeOk; rw [decide_eq_true h1, decide_eq_true h2, decide_eq_true h3, decide_eq_true h4]; rfl
theorem nodeOk_s {h : Nat} {v i : Int} (h1 : nodeOk h v i = true) : 0 ≤ v ∧ v ≤ (h : Int) ∧ 0 ≤ i ∧ i < ((2 ^ (h - v.toNat) : Nat) : Int) := by
  unfold nodeOk at h1
  simp only [Bool.and_eq_true, decide_eq_true_eq] at h1
  exact ⟨h1.1.1.1, h1.1.1.2, h1.1.2, h1.2⟩
theorem nodeOk_f {h : Nat} {v i : Int} (h1 : v < 0 ∨ (h : Int) < v ∨ i < 0 ∨ ((2 ^ (h - v.toNat) : Nat) : Int) ≤ i) : nodeOk h v i = false := by
  cases hn : nodeOk h v i with
  | false => rfl
  | true => obtain ⟨a, b, c, d⟩ := nodeOk_s hn; omega
def nodeV (h : Nat) (v i : Int) : Ending := if nodeOk h v i = true then .returned (.tuple #[]) else .panicked [{ v := .iface 105 (.int .i64 7), recovered := false }]
theorem width_i (n : Int) (h : Nat) (v : Int) (h0 : 0 ≤ v) (hv : v ≤ (h : Int)) (hh : h ≤ 60) (w : World) : Calls Tryz.prog 78 #[.agg #[.int .i64 n, .int .i64 (h : Int)], .int .i64 v] w fun e w' => e = .returned (.int .i64 ((2 ^ (h - v.toNat) : Nat) : Int)) ∧ S w' [Old w no] := by
  have e : v = (v.toNat : Int) := by omega
  have := width_s n h v.toNat (by omega) hh w
  rw [← e] at this; exact this
set_option maxRecDepth 20000 in
set_option maxHeartbeats 4000000 in
theorem fnode_s (n : Int) (h : Nat) (v i : Int) (hh : h ≤ 60) (w : World) : Calls Tryz.prog 55 #[.agg #[.int .i64 n, .int .i64 ((h : Int))], .int .i64 v, .int .i64 i] w fun e w' => e = nodeV h v i ∧ S w' [Old w no] := by
  have H0 := S.old w
  refine enter 19 Tryz.func55 rfl rfl rfl ?_
  refine g_weak [(0, .agg #[.int .i64 n, .int .i64 ((h : Int))]), (1, .int .i64 v), (2, .int .i64 i)] ⟨rfl, rfl, rfl, trivial⟩ ?_
  refine g_seq ?_
  refine g_region ?_
  refine l_of (s_box H0 (wt0 rfl) rfl rfl rfl rfl ?_)
  intro g1 wq2 H3
  refine g_nil ?_
  refine g_then ?_
  refine g_seq ?_
  refine g_region ?_
  refine l_of (s_val (v := .agg #[.int .i64 n, .int .i64 ((h : Int))]) (wt0 rfl) rfl rfl (x_loadA H3 0 rfl rfl Tryz.underlying65 rfl sz65 rfl rfl rfl) ?_)
  refine l_of (s_val (v := .int .i64 v) (wt0 rfl) rfl rfl (x_move rfl rfl) ?_)
  by_cases hb4 : (v : Int) < 0
  · skip
    refine l_of (s_call (wt0 rfl) (x_call' rfl rfl cl61) (level_p1 _ _ _ (of_decide_eq_true (decide_eq_true hb4)) _) ?_)
    rintro _ wq5 ⟨rfl, H6⟩
    replace H6 : S wq5 [Ob g1 (.cells #[.int .i64 n, .int .i64 ((h : Int))] 65 (0, 0)), Old w no] := H3.absorb (new := []) H6
    refine b_panic ?_
    refine g_then_panic ?_
    refine fin_panic ?_
    exact ⟨by unfold nodeV; rw [if_neg (by rw [nodeOk_f (by omega)]; exact Bool.false_ne_true)], H6.mask [false, true]⟩
  · skip
    by_cases hb7 : ((h : Int) : Int) < v
    · skip
      refine l_of (s_call (wt0 rfl) (x_call' rfl rfl cl61) (level_p2 _ _ _ (of_decide_eq_false (decide_eq_false hb4)) (of_decide_eq_true (decide_eq_true hb7)) _) ?_)
      rintro _ wq8 ⟨rfl, H9⟩
      replace H9 : S wq8 [Ob g1 (.cells #[.int .i64 n, .int .i64 ((h : Int))] 65 (0, 0)), Old w no] := H3.absorb (new := []) H9
      refine b_panic ?_
      refine g_then_panic ?_
      refine fin_panic ?_
      exact ⟨by unfold nodeV; rw [if_neg (by rw [nodeOk_f (by omega)]; exact Bool.false_ne_true)], H9.mask [false, true]⟩
    · skip
      refine l_of (s_call (wt0 rfl) (x_call' rfl rfl cl61) (level_r _ _ _ (of_decide_eq_false (decide_eq_false hb4)) (of_decide_eq_false (decide_eq_false hb7)) _) ?_)
      rintro _ wq10 ⟨rfl, H11⟩
      replace H11 : S wq10 [Ob g1 (.cells #[.int .i64 n, .int .i64 ((h : Int))] 65 (0, 0)), Old w no] := H3.absorb (new := []) H11
      refine b_ret rfl rfl ?_
      refine g_nil ?_
      refine g_then ?_
      refine g_region ?_
      refine l_of (s_val (v := .int .i64 i) (wt0 rfl) rfl rfl (x_move rfl rfl) ?_)
      refine l_of (s_val (v := .bool (decide ((i : Int) < 0))) (wt0 rfl) rfl rfl (x_bin rfl rfl rfl b_lss) ?_)
      refine l_of (s_val (v := .bool (decide ((i : Int) < 0))) (wt0 rfl) rfl rfl (x_move rfl rfl) ?_)
      by_cases hb12 : (i : Int) < 0
      · skip
        refine l_of (s_not (wn1 rfl rfl rfl rfl (decide_eq_true hb12)) rfl rfl ?_)
        refine l_of (s_not (wn1 rfl rfl rfl rfl (decide_eq_true hb12)) rfl rfl ?_)
        refine l_of (s_not (wn1 rfl rfl rfl rfl (decide_eq_true hb12)) rfl rfl ?_)
        refine l_of (s_not (wn1 rfl rfl rfl rfl (decide_eq_true hb12)) rfl rfl ?_)
        refine l_of (s_not (wn1 rfl rfl rfl rfl (decide_eq_true hb12)) rfl rfl ?_)
        refine l_of (s_val (v := .bool true) (wt0 rfl) rfl rfl (x_pick_t rfl rfl (decide_eq_true hb12) rfl) ?_)
        refine l_of (s_call (wt0 rfl) (x_call' rfl rfl cl36) (fail_p _ _ rfl _) ?_)
        rintro _ wq13 ⟨rfl, H14⟩
        replace H14 : S wq13 [Ob g1 (.cells #[.int .i64 n, .int .i64 ((h : Int))] 65 (0, 0)), Old w no] := H11.absorb (new := []) H14
        refine b_panic ?_
        refine fin_panic ?_
        exact ⟨by unfold nodeV; rw [if_neg (by rw [nodeOk_f (by omega)]; exact Bool.false_ne_true)], H14.mask [false, true]⟩
      · skip
        refine l_of (s_val (v := .int .i64 i) (wt1 rfl rfl rfl rfl (decide_eq_false hb12)) rfl rfl (x_move rfl rfl) ?_)
        refine l_of (s_val (v := .agg #[.int .i64 n, .int .i64 ((h : Int))]) (wt1 rfl rfl rfl rfl (decide_eq_false hb12)) rfl rfl (x_loadA H11 0 rfl rfl Tryz.underlying65 rfl sz65 rfl rfl rfl) ?_)
        refine l_of (s_val (v := .int .i64 v) (wt1 rfl rfl rfl rfl (decide_eq_false hb12)) rfl rfl (x_move rfl rfl) ?_)
        refine l_of (s_call (wt1 rfl rfl rfl rfl (decide_eq_false hb12)) (x_call' rfl rfl cl78) (width_i _ _ _ (by omega) (by omega) hh _) ?_)
        rintro _ wq15 ⟨rfl, H16⟩
        replace H16 : S wq15 [Ob g1 (.cells #[.int .i64 n, .int .i64 ((h : Int))] 65 (0, 0)), Old w no] := H11.absorb (new := []) H16
        refine b_ret rfl rfl ?_
        refine l_of (s_val (v := .bool (decide ((((2 ^ (h - v.toNat) : Nat) : Int) : Int) ≤ i))) (wt1 rfl rfl rfl rfl (decide_eq_false hb12)) rfl rfl (x_bin rfl rfl rfl b_geq) ?_)
        refine l_of (s_val (v := .bool (decide ((((2 ^ (h - v.toNat) : Nat) : Int) : Int) ≤ i))) (wt0 rfl) rfl rfl (x_pick_f rfl rfl (decide_eq_false hb12) rfl) ?_)
        by_cases hb17 : (((2 ^ (h - v.toNat) : Nat) : Int) : Int) ≤ i
        · skip
          refine l_of (s_call (wt0 rfl) (x_call' rfl rfl cl36) (fail_p _ _ (decide_eq_true hb17) _) ?_)
          rintro _ wq18 ⟨rfl, H19⟩
          replace H19 : S wq18 [Ob g1 (.cells #[.int .i64 n, .int .i64 ((h : Int))] 65 (0, 0)), Old w no] := H16.absorb (new := []) H19
          refine b_panic ?_
          refine fin_panic ?_
          exact ⟨by unfold nodeV; rw [if_neg (by rw [nodeOk_f (by omega)]; exact Bool.false_ne_true)], H19.mask [false, true]⟩
        · skip
          refine l_of (s_call (wt0 rfl) (x_call' rfl rfl cl36) (fail_r _ _ (decide_eq_false hb17) _) ?_)
          rintro _ wq20 ⟨rfl, H21⟩
          replace H21 : S wq20 [Ob g1 (.cells #[.int .i64 n, .int .i64 ((h : Int))] 65 (0, 0)), Old w no] := H16.absorb (new := []) H21
          refine b_ret rfl rfl ?_
          refine g_nil ?_
          refine fin_end [] [] rfl trivial ?_
          exact ⟨by unfold nodeV; rw [if_pos (nodeOk_t (by omega) (by omega) (by omega) (by omega))]; rfl, H21.mask [false, true]⟩
end Go.Proofs.YtlajgickimgigaaGreat
