import Derived.Test.YtlajgickimgigaaTU
set_option linter.unusedSimpArgs false
set_option linter.unusedVariables false
namespace Go.Proofs.Ytlajgickimgigaa
open Go.RowKit

theorem cl69 : callable Try.prog 69 = true := by kernel_rfl
theorem cl70 : callable Try.prog 70 = true := by kernel_rfl
def unclesS (l : List ByteArray) (v i : Int) : List ByteArray × Int :=
  if checkE l = 0 then (if nodeOk (tallN l.length) v i = true then (uncTo l v.toNat i.toNat (tallN l.length - v.toNat), 0) else ([], 7)) else ([], checkE l)
theorem uncles_i (x : Int) (v i : Int) (h : Nat) (l : List ByteArray) (p : Option Addr) (n c : Nat) (hn : n = l.length) (h1 : 1 ≤ n) (hm : n ≤ 4096) (h0 : 0 ≤ v) (hv : v ≤ (h : Int)) (hh : h ≤ 40) (i0 : 0 ≤ i) (hi : i ≤ 1099511627776) (hsz : ∀ s ∈ l, s.size ≤ 65536) (w : World) (hr : Reads w p n c 1 (stV l)) :
    Calls Try.prog 70 #[.agg #[.int .i64 x, .int .i64 (h : Int)], .slice p n c, .int .i64 v, .int .i64 i] w fun e w' => ∃ p' c', e = .returned (.slice p' (h - v.toNat) c') ∧ S w' ([Rw 9 1 p' (h - v.toNat) c' (stV (uncTo l v.toNat i.toNat (h - v.toNat)))] ++ [Old w no]) := by
  have e : v = (v.toNat : Int) := by omega
  have e2 : i = (i.toNat : Int) := by omega
  have := uncles_s x v.toNat i.toNat h l p n c hn h1 hm (by omega) hh (by omega) hsz w hr
  rw [← e, ← e2] at this; exact this
set_option maxRecDepth 20000 in
set_option maxHeartbeats 4000000 in
set_option maxRecDepth 20000 in
set_option maxHeartbeats 4000000 in
theorem uncles_t (l : List ByteArray) (p : Option Addr) (n c : Nat) (hn : n = l.length) (v i : Int) (hm : n ≤ 1099511627776) (w : World) (hr : Reads w p n c 1 (stV l)) : Calls Try.prog 26 #[.slice p n c, .int .i64 v, .int .i64 i] w fun e w' => ∃ p' c', e = .returned (.tuple #[.slice p' (unclesS l v i).1.length c', .int .i64 (unclesS l v i).2]) ∧ S w' ([Rw 9 1 p' (unclesS l v i).1.length c' (stV (unclesS l v i).1)] ++ [Old w no]) := by
  have H0 := S.old w
  refine enter_d 20 Try.func26 rfl rfl rfl ?_
  refine g_weak [(0, .slice p n c), (1, .int .i64 v), (2, .int .i64 i)] ⟨rfl, rfl, rfl, trivial⟩ ?_
  refine g_seq ?_
  refine g_region ?_
  refine l_of (s_val (v := .slice none 0 0) (wt0 rfl) rfl rfl (x_assign rfl rfl) ?_)
  refine l_of (s_alloc H0 (wt0 rfl) rfl rfl rfl ze25 ?_)
  intro g1 wq2 H3
  refine g_nil ?_
  refine g_then ?_
  refine g_seq ?_
  refine g_region ?_
  refine l_of (s_defer (wt0 rfl) rfl (xd_defer rfl rfl rfl) ?_)
  refine g_nil ?_
  refine g_then ?_
  refine g_seq ?_
  refine g_region ?_
  refine l_of (s_val (v := .slice p n c) (wt0 rfl) rfl rfl (x_move rfl rfl) ?_)
  refine l_of (s_call (wt0 rfl) (x_call' rfl rfl cl61) (open_s l p n c hn hm _ (H3.oldReads (k := 1) rfl hr)) ?_)
  rintro _ wq4 ⟨rfl, H5⟩
  replace H5 : S wq4 [Ob g1 (.cells #[.int .i64 0] 25 (0, 0)), Old w no] := H3.absorb (new := []) H5
  by_cases hce : checkE l = 0
  · skip
    rw [show openV l = .returned (.agg #[.int .i64 ((l.length : Int)), .int .i64 (((tallN l.length : Nat) : Int))]) from if_pos hce]
    obtain ⟨hc1, hc2, hc3⟩ := check_spec hce
    have ht12 := tall_le12 hc2
    refine b_ret rfl rfl ?_
    refine l_of (s_alloc H5 (wt0 rfl) rfl rfl rfl ze66 ?_)
    intro g6 wq7 H8
    refine l_of (s_store H8 0 (wt0 rfl) rfl rfl rfl rfl rfl sz66 rfl rfl (cs' := #[.int .i64 ((l.length : Int)), .int .i64 (((tallN l.length : Nat) : Int))]) rfl ?_)
    intro wq9 H10
    refine g_nil ?_
    refine g_then ?_
    refine g_seq ?_
    refine g_region ?_
    refine l_of (s_val (v := .agg #[.int .i64 ((l.length : Int)), .int .i64 (((tallN l.length : Nat) : Int))]) (wt0 rfl) rfl rfl (x_loadA H10 0 rfl rfl Try.underlying66 rfl sz66 rfl rfl rfl) ?_)
    refine l_of (s_val (v := .int .i64 v) (wt0 rfl) rfl rfl (x_move rfl rfl) ?_)
    refine l_of (s_val (v := .int .i64 i) (wt0 rfl) rfl rfl (x_move rfl rfl) ?_)
    refine l_of (s_call (wt0 rfl) (x_call' rfl rfl cl69) (fnode_s _ (tallN l.length) v i (by omega) _) ?_)
    rintro _ wq11 ⟨rfl, H12⟩
    replace H12 : S wq11 [Ob g6 (.cells #[.int .i64 ((l.length : Int)), .int .i64 (((tallN l.length : Nat) : Int))] 66 (0, 0)), Ob g1 (.cells #[.int .i64 0] 25 (0, 0)), Old w no] := H10.absorb (new := []) H12
    by_cases hno : nodeOk (tallN l.length) v i = true
    · skip
      rw [show nodeV (tallN l.length) v i = .returned (.tuple #[]) from if_pos hno]
      obtain ⟨o1, o2, o3, o4⟩ := nodeOk_s hno
      have h4096 : 2 ^ (tallN l.length - v.toNat) ≤ 2 ^ 12 := Nat.pow_le_pow_right (by omega) (by omega)
      refine b_ret rfl rfl ?_
      refine g_nil ?_
      refine g_then ?_
      refine g_seq ?_
      refine g_region ?_
      refine l_of (s_val (v := .agg #[.int .i64 ((l.length : Int)), .int .i64 (((tallN l.length : Nat) : Int))]) (wt0 rfl) rfl rfl (x_loadA H12 0 rfl rfl Try.underlying66 rfl sz66 rfl rfl rfl) ?_)
      refine l_of (s_val (v := .slice p n c) (wt0 rfl) rfl rfl (x_move rfl rfl) ?_)
      refine l_of (s_val (v := .int .i64 v) (wt0 rfl) rfl rfl (x_move rfl rfl) ?_)
      refine l_of (s_val (v := .int .i64 i) (wt0 rfl) rfl rfl (x_move rfl rfl) ?_)
      refine l_of (s_call (wt0 rfl) (x_call' rfl rfl cl70) (uncles_i _ v i (tallN l.length) l p n c hn (by omega) (by omega) o1 o2 (by omega) o3 (by omega) (digs_size hc3) _ (H12.oldReads (k := 2) rfl hr)) ?_)
      rintro _ wq15 ⟨p13, c14, rfl, H16⟩
      replace H16 : S wq15 [Rw 9 1 p13 (tallN l.length - v.toNat) c14 (stV (uncTo l v.toNat i.toNat (tallN l.length - v.toNat))), Ob g6 (.cells #[.int .i64 ((l.length : Int)), .int .i64 (((tallN l.length : Nat) : Int))] 66 (0, 0)), Ob g1 (.cells #[.int .i64 0] 25 (0, 0)), Old w no] := H12.absorb (new := [Rw 9 1 p13 (tallN l.length - v.toNat) c14 (stV (uncTo l v.toNat i.toNat (tallN l.length - v.toNat)))]) H16
      refine b_ret rfl rfl ?_
      refine l_of (s_val (v := .slice p13 (tallN l.length - v.toNat) c14) (wt0 rfl) rfl rfl (x_assign rfl rfl) ?_)
      refine l_of (s_store H16 2 (wt0 rfl) rfl rfl rfl rfl rfl sz25 rfl rfl (cs' := #[.int .i64 0]) rfl ?_)
      intro wq17 H18
      refine g_nil ?_
      refine g_then ?_
      refine g_weak [(6, .slice p13 (tallN l.length - v.toNat) c14), (7, .pointer (some ⟨g1, 0, none⟩))] ⟨rfl, rfl, trivial⟩ ?_
      refine g_ret ?_
      refine fin_dret ?_
      refine gl_step (by simp) cl45 (caught_n g1 _) ?_
      rintro _ _ wq19 ⟨⟨rfl, H20⟩, rfl⟩
      replace H20 : S wq19 [Rw 9 1 p13 (tallN l.length - v.toNat) c14 (stV (uncTo l v.toNat i.toNat (tallN l.length - v.toNat))), Ob g6 (.cells #[.int .i64 ((l.length : Int)), .int .i64 (((tallN l.length : Nat) : Int))] 66 (0, 0)), Ob g1 (.cells #[.int .i64 0] 25 (0, 0)), Old w no] := H18.absorb (new := []) H20
      refine (?_ : GL _ _ _ _ _ _ FrameMode.returning _)
      refine gl_ret [.tmp 6, .cell 7 25] [.slice p13 (tallN l.length - v.toNat) c14, .int .i64 0] rfl ⟨rfl, ⟨_, rfl, run_load1 Try.underlying25 rfl (H20.cell (k := 2) rfl rfl)⟩, trivial⟩ ?_
      refine ⟨p13, c14, ?_, ?_⟩
      · unfold unclesS; rw [if_pos hce, if_pos hno, uncTo_len]; rfl
      · unfold unclesS; rw [if_pos hce, if_pos hno, uncTo_len]; exact H20.takes [0, 3] (by decide)
    · skip
      rw [show nodeV (tallN l.length) v i = .panicked [{ v := .iface 113 (.int .i64 7), recovered := false }] from if_neg hno]
      refine b_panic ?_
      refine g_then_panic ?_
      refine fin_dpanic ?_
      refine gl_step (by simp) cl45 (caught_p g1 (7) (0) [] _ (H12.ob (k := 1) rfl)) ?_
      rintro _ _ wq21 ⟨⟨rfl, H22⟩, rfl⟩
      replace H22 : S wq21 [Ob g1 (.cells #[.int .i64 7] 25 (0, 0)), Ob g6 (.cells #[.int .i64 ((l.length : Int)), .int .i64 (((tallN l.length : Nat) : Int))] 66 (0, 0)), Old w no] := H12.absorbK (new := [Ob g1 (.cells #[.int .i64 7] 25 (0, 0))]) [1] (by intro g hg; subst hg; exact ⟨1, rfl, _, rfl, rfl⟩) H22
      refine (?_ : GL _ _ _ _ _ _ FrameMode.returning _)
      refine gl_ret [.tmp 6, .cell 7 25] [.slice none 0 0, .int .i64 7] rfl ⟨rfl, ⟨_, rfl, run_load1 Try.underlying25 rfl (H22.cell (k := 0) rfl rfl)⟩, trivial⟩ ?_
      have H23 := (H22.takes [2] (by decide)).nilRw 9 1
      refine ⟨none, 0, ?_, ?_⟩
      · unfold unclesS; rw [if_pos hce, if_neg hno]; rfl
      · unfold unclesS; rw [if_pos hce, if_neg hno]; exact H23
  · skip
    rw [show openV l = .panicked [{ v := .iface 113 (.int .i64 (checkE l)), recovered := false }] from if_neg hce]
    refine b_panic ?_
    refine g_then_panic ?_
    refine fin_dpanic ?_
    refine gl_step (by simp) cl45 (caught_p g1 ((checkE l)) (0) [] _ (H5.ob (k := 0) rfl)) ?_
    rintro _ _ wq24 ⟨⟨rfl, H25⟩, rfl⟩
    replace H25 : S wq24 [Ob g1 (.cells #[.int .i64 ((checkE l))] 25 (0, 0)), Old w no] := H5.absorbK (new := [Ob g1 (.cells #[.int .i64 ((checkE l))] 25 (0, 0))]) [0] (by intro g hg; subst hg; exact ⟨0, rfl, _, rfl, rfl⟩) H25
    refine (?_ : GL _ _ _ _ _ _ FrameMode.returning _)
    refine gl_ret [.tmp 6, .cell 7 25] [.slice none 0 0, .int .i64 ((checkE l))] rfl ⟨rfl, ⟨_, rfl, run_load1 Try.underlying25 rfl (H25.cell (k := 0) rfl rfl)⟩, trivial⟩ ?_
    have H26 := (H25.takes [1] (by decide)).nilRw 9 1
    refine ⟨none, 0, ?_, ?_⟩
    · unfold unclesS; rw [if_neg hce]; rfl
    · unfold unclesS; rw [if_neg hce]; exact H26
end Go.Proofs.Ytlajgickimgigaa
