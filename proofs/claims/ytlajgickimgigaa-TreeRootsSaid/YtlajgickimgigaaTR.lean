import Derived.Test.YtlajgickimgigaaTQ
set_option linter.unusedSimpArgs false
set_option linter.unusedVariables false
namespace Go.Proofs.Ytlajgickimgigaa
open Go.RowKit

theorem cl61 : callable Try.prog 61 = true := by kernel_rfl
/-- What is wrong with leaves. -/
def checkE (l : List ByteArray) : Int := if l.length = 0 then 1 else if digsB l = true then (if 4096 < l.length then 4 else 0) else 1
def openV (l : List ByteArray) : Ending := if checkE l = 0 then .returned (.agg #[.int .i64 (l.length : Int), .int .i64 ((tallN l.length : Nat) : Int)]) else .panicked [{ v := .iface 113 (.int .i64 (checkE l)), recovered := false }]
theorem check_ok {l : List ByteArray} (h1 : ¬ l.length = 0) (hd : digsB l = true) (h : ¬ 4096 < l.length) : checkE l = 0 := by unfold checkE; rw [if_neg h1, if_pos hd, if_neg h]
theorem check_4 {l : List ByteArray} (h1 : ¬ l.length = 0) (hd : digsB l = true) (h : 4096 < l.length) : checkE l = 4 := by unfold checkE; rw [if_neg h1, if_pos hd, if_pos h]
theorem check_1 {l : List ByteArray} (h : l.length = 0 ∨ digsB l = false) : checkE l = 1 := by
  unfold checkE
  split
  · rfl
  · rcases h with h | h
    · contradiction
    · rw [if_neg (by rw [h]; exact Bool.false_ne_true)]
theorem check_spec {l : List ByteArray} (h : checkE l = 0) : 1 ≤ l.length ∧ l.length ≤ 4096 ∧ digsB l = true := by
  unfold checkE at h
  split at h
  · omega
  · split at h
    · split at h
      · omega
      · exact ⟨by omega, by omega, by assumption⟩
    · omega
set_option maxRecDepth 20000 in
set_option maxHeartbeats 4000000 in
set_option maxRecDepth 20000 in
set_option maxHeartbeats 4000000 in
theorem open_s (l : List ByteArray) (p : Option Addr) (n c : Nat) (hn : n = l.length) (hm : n ≤ 1099511627776) (w : World) (hr : Reads w p n c 1 (stV l)) : Calls Try.prog 61 #[.slice p n c] w fun e w' => e = openV l ∧ S w' [Old w no] := by
  have H0 := S.old w
  refine enter 19 Try.func61 rfl rfl rfl ?_
  refine g_weak [(0, .slice p n c)] ⟨rfl, trivial⟩ ?_
  refine g_seq ?_
  refine g_region ?_
  refine l_of (s_alloc H0 (wt0 rfl) rfl rfl rfl ze66 ?_)
  intro g1 wq2 H3
  refine g_nil ?_
  refine g_then ?_
  refine g_seq ?_
  refine g_region ?_
  refine l_of (s_val (v := .slice p n c) (wt0 rfl) rfl rfl (x_move rfl rfl) ?_)
  refine l_of (s_val (v := .int .i64 ((n : Int))) (wt0 rfl) rfl rfl (x_lenl rfl rfl Try.underlying22) ?_)
  refine l_of (s_val (v := .bool (decide (((n : Int) : Int) = 0))) (wt0 rfl) rfl rfl (x_bin rfl rfl rfl b_eql) ?_)
  refine l_of (s_val (v := .bool (decide (((n : Int) : Int) = 0))) (wt0 rfl) rfl rfl (x_move rfl rfl) ?_)
  by_cases hb4 : ((n : Int) : Int) = 0
  · skip
    refine l_of (s_not (wn1 rfl rfl rfl rfl (decide_eq_true hb4)) rfl rfl ?_)
    refine l_of (s_not (wn1 rfl rfl rfl rfl (decide_eq_true hb4)) rfl rfl ?_)
    refine l_of (s_not (wn1 rfl rfl rfl rfl (decide_eq_true hb4)) rfl rfl ?_)
    refine l_of (s_val (v := .bool true) (wt0 rfl) rfl rfl (x_pick_t rfl rfl (decide_eq_true hb4) rfl) ?_)
    refine l_of (s_call (wt0 rfl) (x_call' rfl rfl cl46) (fail_p _ _ rfl _) ?_)
    rintro _ wq5 ⟨rfl, H6⟩
    replace H6 : S wq5 [Ob g1 (.cells #[.int .i64 0, .int .i64 0] 66 (0, 0)), Old w no] := H3.absorb (new := []) H6
    refine b_panic ?_
    refine g_then_panic ?_
    refine fin_panic ?_
    exact ⟨by unfold openV; rw [check_1 (.inl (by omega))]; rfl, H6.mask [false, true]⟩
  · skip
    refine l_of (s_val (v := .slice p n c) (wt1 rfl rfl rfl rfl (decide_eq_false hb4)) rfl rfl (x_move rfl rfl) ?_)
    refine l_of (s_call (wt1 rfl rfl rfl rfl (decide_eq_false hb4)) (x_call' rfl rfl cl47) (digests_s l p n c hn hm _ (H3.oldReads (k := 1) rfl hr)) ?_)
    rintro _ wq7 ⟨rfl, H8⟩
    replace H8 : S wq7 [Ob g1 (.cells #[.int .i64 0, .int .i64 0] 66 (0, 0)), Old w no] := H3.absorb (new := []) H8
    refine b_ret rfl rfl ?_
    refine l_of (s_val (v := .bool (!((digsB l)))) (wt1 rfl rfl rfl rfl (decide_eq_false hb4)) rfl rfl (x_not (b := (digsB l)) rfl rfl) ?_)
    refine l_of (s_val (v := .bool (!((digsB l)))) (wt0 rfl) rfl rfl (x_pick_f rfl rfl (decide_eq_false hb4) rfl) ?_)
    rcases Bool.eq_false_or_eq_true ((digsB l)) with hb9 | hb9
    · skip
      refine l_of (s_call (wt0 rfl) (x_call' rfl rfl cl46) (fail_r _ _ (neg_of hb9) _) ?_)
      rintro _ wq10 ⟨rfl, H11⟩
      replace H11 : S wq10 [Ob g1 (.cells #[.int .i64 0, .int .i64 0] 66 (0, 0)), Old w no] := H8.absorb (new := []) H11
      refine b_ret rfl rfl ?_
      refine g_nil ?_
      refine g_then ?_
      refine g_seq ?_
      refine g_region ?_
      refine l_of (s_val (v := .slice p n c) (wt0 rfl) rfl rfl (x_move rfl rfl) ?_)
      refine l_of (s_val (v := .int .i64 ((n : Int))) (wt0 rfl) rfl rfl (x_lenl rfl rfl Try.underlying22) ?_)
      refine l_of (s_val (v := .bool (decide ((4096 : Int) < (n : Int)))) (wt0 rfl) rfl rfl (x_bin rfl rfl rfl b_gtr) ?_)
      by_cases hb12 : (4096 : Int) < (n : Int)
      · skip
        refine l_of (s_call (wt0 rfl) (x_call' rfl rfl cl46) (fail_p _ _ (decide_eq_true hb12) _) ?_)
        rintro _ wq13 ⟨rfl, H14⟩
        replace H14 : S wq13 [Ob g1 (.cells #[.int .i64 0, .int .i64 0] 66 (0, 0)), Old w no] := H11.absorb (new := []) H14
        refine b_panic ?_
        refine g_then_panic ?_
        refine fin_panic ?_
        exact ⟨by unfold openV; rw [check_4 (by omega) hb9 (by omega)]; rfl, H14.mask [false, true]⟩
      · skip
        refine l_of (s_call (wt0 rfl) (x_call' rfl rfl cl46) (fail_r _ _ (decide_eq_false hb12) _) ?_)
        rintro _ wq15 ⟨rfl, H16⟩
        replace H16 : S wq15 [Ob g1 (.cells #[.int .i64 0, .int .i64 0] 66 (0, 0)), Old w no] := H11.absorb (new := []) H16
        refine b_ret rfl rfl ?_
        refine g_nil ?_
        refine g_then ?_
        refine g_weak [(0, .slice p n c), (2, .pointer (some ⟨g1, 0, none⟩))] ⟨rfl, rfl, trivial⟩ ?_
        refine g_seq ?_
        refine g_region ?_
        refine l_of (s_val (v := .slice p n c) (wt0 rfl) rfl rfl (x_move rfl rfl) ?_)
        refine l_of (s_val (v := .int .i64 ((n : Int))) (wt0 rfl) rfl rfl (x_lenl rfl rfl Try.underlying22) ?_)
        refine l_of (s_call (wt0 rfl) (x_call' rfl rfl cl48) (formed_r _ (by omega) (by omega) _) ?_)
        rintro _ wq17 ⟨rfl, H18⟩
        replace H18 : S wq17 [Ob g1 (.cells #[.int .i64 0, .int .i64 0] 66 (0, 0)), Old w no] := H16.absorb (new := []) H18
        refine b_ret rfl rfl ?_
        refine l_of (s_store H18 0 (wt0 rfl) rfl rfl rfl rfl rfl sz66 rfl rfl (cs' := #[.int .i64 ((n : Int)), .int .i64 (((tallN n : Nat) : Int))]) rfl ?_)
        intro wq19 H20
        refine g_nil ?_
        refine g_then ?_
        refine g_ret ?_
        refine fin_ret [.cell 2 66] [.agg #[.int .i64 ((n : Int)), .int .i64 (((tallN n : Nat) : Int))]] rfl ⟨⟨_, rfl, run_loadA (H20.ob (k := 0) rfl) Try.underlying66 rfl sz66 rfl rfl⟩, trivial⟩ ?_
        exact ⟨by unfold openV; rw [if_pos (check_ok (by omega) hb9 (by omega)), ← hn]; rfl, H20.mask [false, true]⟩
    · skip
      refine l_of (s_call (wt0 rfl) (x_call' rfl rfl cl46) (fail_p _ _ (neg_of hb9) _) ?_)
      rintro _ wq21 ⟨rfl, H22⟩
      replace H22 : S wq21 [Ob g1 (.cells #[.int .i64 0, .int .i64 0] 66 (0, 0)), Old w no] := H8.absorb (new := []) H22
      refine b_panic ?_
      refine g_then_panic ?_
      refine fin_panic ?_
      exact ⟨by unfold openV; rw [check_1 (.inr hb9)]; rfl, H22.mask [false, true]⟩
def rootS (l : List ByteArray) : ByteArray × Int := if checkE l = 0 then ((lvlS 0 l (tallN l.length)).getD 0 ⟨#[]⟩, 0) else (⟨#[]⟩, checkE l)
set_option maxRecDepth 20000 in
set_option maxHeartbeats 4000000 in
set_option maxRecDepth 20000 in
set_option maxHeartbeats 4000000 in
theorem root_s (l : List ByteArray) (p : Option Addr) (n c : Nat) (hn : n = l.length) (hm : n ≤ 1099511627776) (w : World) (hr : Reads w p n c 1 (stV l)) : Calls Try.prog 20 #[.slice p n c] w fun e w' => e = .returned (.tuple #[.string (rootS l).1, .int .i64 (rootS l).2]) ∧ S w' [Old w no] := by
  have H0 := S.old w
  refine enter_d 13 Try.func20 rfl rfl rfl ?_
  refine g_weak [(0, .slice p n c)] ⟨rfl, trivial⟩ ?_
  refine g_seq ?_
  refine g_region ?_
  refine l_of (s_val (v := .string (⟨#[]⟩)) (wt0 rfl) rfl rfl (x_assign rfl rfl) ?_)
  refine l_of (s_alloc H0 (wt0 rfl) rfl rfl rfl ze25 ?_)
  intro g1 wq2 H3
  refine g_nil ?_
  refine g_then ?_
  refine g_seq ?_
  refine g_region ?_
  refine l_of (s_defer (wt0 rfl) rfl (xd_defer rfl rfl rfl) ?_)
  refine g_nil ?_
  refine g_then ?_
  refine g_seq ?_
  refine g_region ?_
  refine l_of (s_val (v := .slice p n c) (wt0 rfl) rfl rfl (x_move rfl rfl) ?_)
  refine l_of (s_call (wt0 rfl) (x_call' rfl rfl cl61) (open_s l p n c hn hm _ (H3.oldReads (k := 1) rfl hr)) ?_)
  rintro _ wq4 ⟨rfl, H5⟩
  replace H5 : S wq4 [Ob g1 (.cells #[.int .i64 0] 25 (0, 0)), Old w no] := H3.absorb (new := []) H5
  by_cases hce : checkE l = 0
  · skip
    rw [show openV l = .returned (.agg #[.int .i64 ((l.length : Int)), .int .i64 (((tallN l.length : Nat) : Int))]) from if_pos hce]
    obtain ⟨hc1, hc2, hc3⟩ := check_spec hce
    have ht12 := tall_le12 hc2
    refine b_ret rfl rfl ?_
    refine l_of (s_alloc H5 (wt0 rfl) rfl rfl rfl ze66 ?_)
    intro g6 wq7 H8
    refine l_of (s_store H8 0 (wt0 rfl) rfl rfl rfl rfl rfl sz66 rfl rfl (cs' := #[.int .i64 ((l.length : Int)), .int .i64 (((tallN l.length : Nat) : Int))]) rfl ?_)
    intro wq9 H10
    refine g_nil ?_
    refine g_then ?_
    refine g_seq ?_
    refine g_region ?_
    refine l_of (s_val (v := .pointer (some ⟨g6, 1, none⟩)) (wt0 rfl) rfl rfl (x_fieldAddr rfl rfl fo66_1 rfl) ?_)
    refine l_of (s_val (v := .int .i64 (((tallN l.length : Nat) : Int))) (wt0 rfl) rfl rfl (x_load1 H10 0 rfl rfl Try.underlying3 rfl rfl rfl) ?_)
    refine l_of (s_val (v := .slice p n c) (wt0 rfl) rfl rfl (x_move rfl rfl) ?_)
    have hl0 := lvlS_count (n := l.length) (v := 0) (l := l) (by unfold countN; rw [Nat.pow_zero, Nat.div_one]; omega) (tallN l.length)
    have hl1 := countN_pos l.length (0 + tallN l.length)
    have hlay := layer_s 0 (tallN l.length) l p n c hn (by omega) (by omega) (digs_size hc3) (by omega) wq9 (H10.oldReads (k := 2) rfl hr)
    rw [Nat.zero_add] at hlay
    refine l_of (s_call (wt0 rfl) (x_call' rfl rfl cl51) hlay ?_)
    rintro _ wq13 ⟨p11, c12, rfl, H14⟩
    replace H14 : S wq13 [Rw 9 1 p11 (lvlS 0 l (tallN l.length)).length c12 (stV (lvlS 0 l (tallN l.length))), Ob g6 (.cells #[.int .i64 ((l.length : Int)), .int .i64 (((tallN l.length : Nat) : Int))] 66 (0, 0)), Ob g1 (.cells #[.int .i64 0] 25 (0, 0)), Old w no] := H10.absorb (new := [Rw 9 1 p11 (lvlS 0 l (tallN l.length)).length c12 (stV (lvlS 0 l (tallN l.length)))]) H14
    refine b_ret rfl rfl ?_
    refine l_of (s_val (v := .pointer ((p11).map fun q => q.add (0 * 1))) (wt0 rfl) rfl rfl (x_idxR 0 (H14.rwReads (k := 0) rfl) rfl rfl rfl Try.underlying22 sz9 (by omega)) ?_)
    refine l_of (s_val (v := .string (((lvlS 0 l (tallN l.length)).getD (0) ⟨#[]⟩))) (wt0 rfl) rfl rfl (x_loadR1 0 (H14.rwReads (k := 0) rfl) (by omega) rfl rfl Try.underlying9 rfl (stV_at (by omega))) ?_)
    refine l_of (s_val (v := .string (((lvlS 0 l (tallN l.length)).getD (0) ⟨#[]⟩))) (wt0 rfl) rfl rfl (x_assign rfl rfl) ?_)
    refine l_of (s_store H14 2 (wt0 rfl) rfl rfl rfl rfl rfl sz25 rfl rfl (cs' := #[.int .i64 0]) rfl ?_)
    intro wq15 H16
    refine g_nil ?_
    refine g_then ?_
    refine g_ret ?_
    refine fin_dret ?_
    refine gl_step (by simp) cl45 (caught_n g1 _) ?_
    rintro _ _ wq17 ⟨⟨rfl, H18⟩, rfl⟩
    replace H18 : S wq17 [Rw 9 1 p11 (lvlS 0 l (tallN l.length)).length c12 (stV (lvlS 0 l (tallN l.length))), Ob g6 (.cells #[.int .i64 ((l.length : Int)), .int .i64 (((tallN l.length : Nat) : Int))] 66 (0, 0)), Ob g1 (.cells #[.int .i64 0] 25 (0, 0)), Old w no] := H16.absorb (new := []) H18
    refine (?_ : GL _ _ _ _ _ _ FrameMode.returning _)
    refine gl_ret [.tmp 2, .cell 3 25] [.string (((lvlS 0 l (tallN l.length)).getD (0) ⟨#[]⟩)), .int .i64 0] rfl ⟨rfl, ⟨_, rfl, run_load1 Try.underlying25 rfl (H18.cell (k := 2) rfl rfl)⟩, trivial⟩ ?_
    exact ⟨by unfold rootS; rw [if_pos hce]; rfl, H18.mask [false, false, false, true]⟩
  · skip
    rw [show openV l = .panicked [{ v := .iface 113 (.int .i64 (checkE l)), recovered := false }] from if_neg hce]
    refine b_panic ?_
    refine g_then_panic ?_
    refine fin_dpanic ?_
    refine gl_step (by simp) cl45 (caught_p g1 ((checkE l)) (0) [] _ (H5.ob (k := 0) rfl)) ?_
    rintro _ _ wq19 ⟨⟨rfl, H20⟩, rfl⟩
    replace H20 : S wq19 [Ob g1 (.cells #[.int .i64 ((checkE l))] 25 (0, 0)), Old w no] := H5.absorbK (new := [Ob g1 (.cells #[.int .i64 ((checkE l))] 25 (0, 0))]) [0] (by intro g hg; subst hg; exact ⟨0, rfl, _, rfl, rfl⟩) H20
    refine (?_ : GL _ _ _ _ _ _ FrameMode.returning _)
    refine gl_ret [.tmp 2, .cell 3 25] [.string (⟨#[]⟩), .int .i64 ((checkE l))] rfl ⟨rfl, ⟨_, rfl, run_load1 Try.underlying25 rfl (H20.cell (k := 0) rfl rfl)⟩, trivial⟩ ?_
    exact ⟨by unfold rootS; rw [if_neg hce]; rfl, H20.mask [false, true]⟩
end Go.Proofs.Ytlajgickimgigaa
