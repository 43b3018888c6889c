import Derived.Test.YtlajgickimgigaaGreatTU
set_option linter.unusedSimpArgs false
set_option linter.unusedVariables false
namespace Go.Proofs.YtlajgickimgigaaGreat
open Go.RowKit

theorem cl55 : callable Tryz.prog 55 = true := by kernel_rfl
theorem cl66 : callable Tryz.prog 66 = true := by kernel_rfl
def unclesS (l : List ByteArray) (v i : Int) : List ByteArray × Int :=
  if checkE l = 0 then (if nodeOk (tallN l.length) v i = true then (uncTo l v.toNat i.toNat (tallN l.length - v.toNat), 0) else ([], 7)) else ([], checkE l)
theorem uncles_i (x : Int) (v i : Int) (h : Nat) (l : List ByteArray) (p : Option Addr) (n c : Nat) (hn : n = l.length) (h1 : 1 ≤ n) (hm : n ≤ 4096) (h0 : 0 ≤ v) (hv : v ≤ (h : Int)) (hh : h ≤ 40) (i0 : 0 ≤ i) (hi : i ≤ 1099511627776) (hsz : ∀ s ∈ l, s.size ≤ 65536) (w : World) (hr : Reads w p n c 1 (stV l)) :
    Calls Tryz.prog 66 #[.agg #[.int .i64 x, .int .i64 (h : Int)], .slice p n c, .int .i64 v, .int .i64 i] w fun e w' => ∃ p' c', e = .returned (.slice p' (h - v.toNat) c') ∧ S w' ([Rw 9 1 p' (h - v.toNat) c' (stV (uncTo l v.toNat i.toNat (h - v.toNat)))] ++ [Old w no]) := by
  have e : v = (v.toNat : Int) := by omega
  have e2 : i = (i.toNat : Int) := by omega
  have := uncles_s x v.toNat i.toNat h l p n c hn h1 hm (by omega) hh (by omega) hsz w hr
  rw [← e, ← e2] at this; exact this
set_option maxRecDepth 20000 in
set_option maxHeartbeats 4000000 in
set_option maxRecDepth 20000 in
set_option maxHeartbeats 4000000 in
theorem uncles_t (l : List ByteArray) (p : Option Addr) (n c : Nat) (hn : n = l.length) (v i : Int) (hm : n ≤ 1099511627776) (w : World) (hr : Reads w p n c 1 (stV l)) : Calls Tryz.prog 27 #[.slice p n c, .int .i64 v, .int .i64 i] w fun e w' => ∃ p' c', e = .returned (.tuple #[.slice p' (unclesS l v i).1.length c', .int .i64 (unclesS l v i).2]) ∧ S w' ([Rw 9 1 p' (unclesS l v i).1.length c' (stV (unclesS l v i).1)] ++ [Old w no]) := by
  have H0 := S.old w
  refine enter_d 20 Tryz.func27 rfl rfl rfl ?_
  refine g_weak [(0, .slice p n c), (1, .int .i64 v), (2, .int .i64 i)] ⟨rfl, rfl, rfl, trivial⟩ ?_
  refine g_seq ?_
  refine g_region ?_
  refine l_of (s_val (v := .slice none 0 0) (wt0 rfl) rfl rfl (x_assign rfl rfl) ?_)
  refine l_of (s_alloc H0 (wt0 rfl) rfl rfl rfl ze26 ?_)
  intro g1 wq2 H3
  refine g_nil ?_
  refine g_then ?_
  refine g_seq ?_
  refine g_region ?_
  refine l_of (s_defer (wt0 rfl) rfl (xd_defer rfl rfl rfl) ?_)
  refine g_nil ?_
  refine g_then ?_
  refine g_seq ?_
  refine g_region ?_
  refine l_of (s_val (v := .slice p n c) (wt0 rfl) rfl rfl (x_move rfl rfl) ?_)
  refine l_of (s_call (wt0 rfl) (x_call' rfl rfl cl31) (open_s l p n c hn hm _ (H3.oldReads (k := 1) rfl hr)) ?_)
  rintro _ wq4 ⟨rfl, H5⟩
  replace H5 : S wq4 [Ob g1 (.cells #[.int .i64 0] 26 (0, 0)), Old w no] := H3.absorb (new := []) H5
  by_cases hce : checkE l = 0
  · skip
    rw [show openV l = .returned (.agg #[.int .i64 ((l.length : Int)), .int .i64 (((tallN l.length : Nat) : Int))]) from if_pos hce]
    obtain ⟨hc1, hc2, hc3⟩ := check_spec hce
    have ht12 := tall_le12 hc2
    refine b_ret rfl rfl ?_
    refine l_of (s_alloc H5 (wt0 rfl) rfl rfl rfl ze65 ?_)
    intro g6 wq7 H8
    refine l_of (s_store H8 0 (wt0 rfl) rfl rfl rfl rfl rfl sz65 rfl rfl (cs' := #[.int .i64 ((l.length : Int)), .int .i64 (((tallN l.length : Nat) : Int))]) rfl ?_)
    intro wq9 H10
    refine g_nil ?_
    refine g_then ?_
    refine g_seq ?_
    refine g_region ?_
    refine l_of (s_val (v := .agg #[.int .i64 ((l.length : Int)), .int .i64 (((tallN l.length : Nat) : Int))]) (wt0 rfl) rfl rfl (x_loadA H10 0 rfl rfl Tryz.underlying65 rfl sz65 rfl rfl rfl) ?_)
    refine l_of (s_val (v := .int .i64 v) (wt0 rfl) rfl rfl (x_move rfl rfl) ?_)
    refine l_of (s_val (v := .int .i64 i) (wt0 rfl) rfl rfl (x_move rfl rfl) ?_)
    refine l_of (s_call (wt0 rfl) (x_call' rfl rfl cl55) (fnode_s _ (tallN l.length) v i (by omega) _) ?_)
    rintro _ wq11 ⟨rfl, H12⟩
    replace H12 : S wq11 [Ob g6 (.cells #[.int .i64 ((l.length : Int)), .int .i64 (((tallN l.length : Nat) : Int))] 65 (0, 0)), Ob g1 (.cells #[.int .i64 0] 26 (0, 0)), Old w no] := H10.absorb (new := []) H12
    by_cases hno : nodeOk (tallN l.length) v i = true
    · skip
      rw [show nodeV (tallN l.length) v i = .returned (.tuple #[]) from if_pos hno]
      obtain ⟨o1, o2, o3, o4⟩ := nodeOk_s hno
      have h4096 : 2 ^ (tallN l.length - v.toNat) ≤ 2 ^ 12 := Nat.pow_le_pow_right (by omega) (by omega)
      refine b_ret rfl rfl ?_
      refine g_nil ?_
      refine g_then ?_
      refine g_seq ?_
      refine g_region ?_
      refine l_of (s_val (v := .agg #[.int .i64 ((l.length : Int)), .int .i64 (((tallN l.length : Nat) : Int))]) (wt0 rfl) rfl rfl (x_loadA H12 0 rfl rfl Tryz.underlying65 rfl sz65 rfl rfl rfl) ?_)
      refine l_of (s_val (v := .slice p n c) (wt0 rfl) rfl rfl (x_move rfl rfl) ?_)
      refine l_of (s_val (v := .int .i64 v) (wt0 rfl) rfl rfl (x_move rfl rfl) ?_)
      refine l_of (s_val (v := .int .i64 i) (wt0 rfl) rfl rfl (x_move rfl rfl) ?_)
      refine l_of (s_call (wt0 rfl) (x_call' rfl rfl cl66) (uncles_i _ v i (tallN l.length) l p n c hn (by omega) (by omega) o1 o2 (by omega) o3 (by omega) (digs_size hc3) _ (H12.oldReads (k := 2) rfl hr)) ?_)
      rintro _ wq15 ⟨p13, c14, rfl, H16⟩
      replace H16 : S wq15 [Rw 9 1 p13 (tallN l.length - v.toNat) c14 (stV (uncTo l v.toNat i.toNat (tallN l.length - v.toNat))), Ob g6 (.cells #[.int .i64 ((l.length : Int)), .int .i64 (((tallN l.length : Nat) : Int))] 65 (0, 0)), Ob g1 (.cells #[.int .i64 0] 26 (0, 0)), Old w no] := H12.absorb (new := [Rw 9 1 p13 (tallN l.length - v.toNat) c14 (stV (uncTo l v.toNat i.toNat (tallN l.length - v.toNat)))]) H16
      refine b_ret rfl rfl ?_
      refine l_of (s_val (v := .slice p13 (tallN l.length - v.toNat) c14) (wt0 rfl) rfl rfl (x_assign rfl rfl) ?_)
      refine l_of (s_store H16 2 (wt0 rfl) rfl rfl rfl rfl rfl sz26 rfl rfl (cs' := #[.int .i64 0]) rfl ?_)
      intro wq17 H18
      refine g_nil ?_
      refine g_then ?_
      refine g_weak [(6, .slice p13 (tallN l.length - v.toNat) c14), (7, .pointer (some ⟨g1, 0, none⟩))] ⟨rfl, rfl, trivial⟩ ?_
      refine g_ret ?_
      refine fin_dret ?_
      refine gl_step (by simp) cl30 (caught_n g1 _) ?_
      rintro _ _ wq19 ⟨⟨rfl, H20⟩, rfl⟩
      replace H20 : S wq19 [Rw 9 1 p13 (tallN l.length - v.toNat) c14 (stV (uncTo l v.toNat i.toNat (tallN l.length - v.toNat))), Ob g6 (.cells #[.int .i64 ((l.length : Int)), .int .i64 (((tallN l.length : Nat) : Int))] 65 (0, 0)), Ob g1 (.cells #[.int .i64 0] 26 (0, 0)), Old w no] := H18.absorb (new := []) H20
      refine (?_ : GL _ _ _ _ _ _ FrameMode.returning _)
      refine gl_ret [.tmp 6, .cell 7 26] [.slice p13 (tallN l.length - v.toNat) c14, .int .i64 0] rfl ⟨rfl, ⟨_, rfl, run_load1 Tryz.underlying26 rfl (H20.cell (k := 2) rfl rfl)⟩, trivial⟩ ?_
      refine ⟨p13, c14, ?_, ?_⟩
      · unfold unclesS; rw [if_pos hce, if_pos hno, uncTo_len]; rfl
      · unfold unclesS; rw [if_pos hce, if_pos hno, uncTo_len]; exact H20.takes [0, 3] (by decide)
    · skip
      rw [show nodeV (tallN l.length) v i = .panicked [{ v := .iface 105 (.int .i64 7), recovered := false }] from if_neg hno]
      refine b_panic ?_
      refine g_then_panic ?_
      refine fin_dpanic ?_
      refine gl_step (by simp) cl30 (caught_p g1 (7) (0) [] _ (H12.ob (k := 1) rfl)) ?_
      rintro _ _ wq21 ⟨⟨rfl, H22⟩, rfl⟩
      replace H22 : S wq21 [Ob g1 (.cells #[.int .i64 7] 26 (0, 0)), Ob g6 (.cells #[.int .i64 ((l.length : Int)), .int .i64 (((tallN l.length : Nat) : Int))] 65 (0, 0)), Old w no] := H12.absorbK (new := [Ob g1 (.cells #[.int .i64 7] 26 (0, 0))]) [1] (by intro g hg; subst hg; exact ⟨1, rfl, _, rfl, rfl⟩) H22
      refine (?_ : GL _ _ _ _ _ _ FrameMode.returning _)
      refine gl_ret [.tmp 6, .cell 7 26] [.slice none 0 0, .int .i64 7] rfl ⟨rfl, ⟨_, rfl, run_load1 Tryz.underlying26 rfl (H22.cell (k := 0) rfl rfl)⟩, trivial⟩ ?_
      have H23 := (H22.takes [2] (by decide)).nilRw 9 1
      refine ⟨none, 0, ?_, ?_⟩
      · unfold unclesS; rw [if_pos hce, if_neg hno]; rfl
      · unfold unclesS; rw [if_pos hce, if_neg hno]; exact H23
  · skip
    rw [show openV l = .panicked [{ v := .iface 105 (.int .i64 (checkE l)), recovered := false }] from if_neg hce]
    refine b_panic ?_
    refine g_then_panic ?_
    refine fin_dpanic ?_
    refine gl_step (by simp) cl30 (caught_p g1 ((checkE l)) (0) [] _ (H5.ob (k := 0) rfl)) ?_
    rintro _ _ wq24 ⟨⟨rfl, H25⟩, rfl⟩
    replace H25 : S wq24 [Ob g1 (.cells #[.int .i64 ((checkE l))] 26 (0, 0)), Old w no] := H5.absorbK (new := [Ob g1 (.cells #[.int .i64 ((checkE l))] 26 (0, 0))]) [0] (by intro g hg; subst hg; exact ⟨0, rfl, _, rfl, rfl⟩) H25
    refine (?_ : GL _ _ _ _ _ _ FrameMode.returning _)
    refine gl_ret [.tmp 6, .cell 7 26] [.slice none 0 0, .int .i64 ((checkE l))] rfl ⟨rfl, ⟨_, rfl, run_load1 Tryz.underlying26 rfl (H25.cell (k := 0) rfl rfl)⟩, trivial⟩ ?_
    have H26 := (H25.takes [1] (by decide)).nilRw 9 1
    refine ⟨none, 0, ?_, ?_⟩
    · unfold unclesS; rw [if_neg hce]; rfl
    · unfold unclesS; rw [if_neg hce]; exact H26
end Go.Proofs.YtlajgickimgigaaGreat
namespace Go.Proofs.YtlajgickimgigaaGreat
open Go.RowKit

/-! ## The page's example -/
theorem tall3 : tallN 3 = 2 := tallN_of (by omega) (by decide) (fun j hj => by
  have : j = 0 ∨ j = 1 := by omega
  rcases this with rfl | rfl <;> decide)
theorem digs3 {a b c : ByteArray} (ha : a.size = 32) (hb : b.size = 32) (hc : c.size = 32) : digsB [a, b, c] = true := by
  unfold digsB; simp [ha, hb, hc]
theorem check3 {a b c : ByteArray} (ha : a.size = 32) (hb : b.size = 32) (hc : c.size = 32) : checkE [a, b, c] = 0 :=
  check_ok (by simp) (digs3 ha hb hc) (by simp)
theorem lvl3_1 (a b c : ByteArray) : lvlS 0 [a, b, c] 1 = [pairS a b, pairS c zeroB] := by
  show upS (padL 0 [a, b, c]) = _
  have : padL 0 [a, b, c] = [a, b, c, zeroB] := by unfold padL; rw [if_pos (by simp)]; rfl
  rw [this]; simp [upS]
theorem lvl3_2 (a b c : ByteArray) : lvlS 0 [a, b, c] 2 = [pairS (pairS a b) (pairS c zeroB)] := by
  show upS (padL 1 (lvlS 0 [a, b, c] 1)) = _
  rw [lvl3_1]
  have : padL 1 [pairS a b, pairS c zeroB] = [pairS a b, pairS c zeroB] := by unfold padL; rw [if_neg (by simp)]
  rw [this]; simp [upS]
theorem root3 {a b c : ByteArray} (ha : a.size = 32) (hb : b.size = 32) (hc : c.size = 32) : rootS [a, b, c] = (pairS (pairS a b) (pairS c zeroB), 0) := by
  unfold rootS
  rw [if_pos (check3 ha hb hc), show [a, b, c].length = 3 from rfl, tall3, lvl3_2]; rfl
theorem uncles3 {a b c : ByteArray} (ha : a.size = 32) (hb : b.size = 32) (hc : c.size = 32) : unclesS [a, b, c] 0 2 = ([zeroB, pairS a b], 0) := by
  unfold unclesS
  rw [if_pos (check3 ha hb hc), show [a, b, c].length = 3 from rfl, tall3, if_pos (nodeOk_t (by decide) (by decide) (by decide) (by decide))]
  have e : uncTo [a, b, c] (0 : Int).toNat (2 : Int).toNat (2 - (0 : Int).toNat) = [nodeS 0 3 (lvlS 0 [a, b, c] 0), nodeS 1 0 (lvlS 0 [a, b, c] 1)] := rfl
  rw [e, lvl3_1]
  have e1 : nodeS 0 3 (lvlS 0 [a, b, c] 0) = zeroB := by unfold nodeS; rw [if_neg (by show ¬ 3 < [a, b, c].length; simp)]; rfl
  have e2 : nodeS 1 0 [pairS a b, pairS c zeroB] = pairS a b := by unfold nodeS; rw [if_pos (by simp)]; rfl
  rw [e1, e2]
end Go.Proofs.YtlajgickimgigaaGreat
namespace Go.Proofs.YtlajgickimgigaaGreat
open Go.RowKit

theorem cl6 : callable Tryz.prog 6 = true := by kernel_rfl
theorem cl27 : callable Tryz.prog 27 = true := by kernel_rfl
theorem zeroB_size : zeroB.size = 32 := zeroS_size 0
set_option maxRecDepth 20000 in
set_option maxHeartbeats 4000000 in
theorem awake_s   (w : World) : Calls Tryz.prog 5 #[] w fun e w' => e = .returned (.bool true) ∧ S w' [Old w no] := by
  have H0 := S.old w
  refine enter 68 Tryz.func5 rfl rfl rfl ?_
  refine g_weak [] trivial ?_
  refine g_seq ?_
  refine g_region ?_
  refine l_of (s_val (v := .bool false) (wt0 rfl) rfl rfl (x_assign rfl rfl) ?_)
  refine g_nil ?_
  refine g_then ?_
  refine g_seq ?_
  refine g_region ?_
  refine l_of (s_call (wt0 rfl) (x_call' rfl rfl cl26) (sum_h _ (by decide) _) ?_)
  rintro _ wq1 ⟨rfl, H2⟩
  replace H2 : S wq1 [Old w no] := H0.absorb (new := []) H2
  refine b_ret rfl rfl ?_
  refine l_of (s_call (wt0 rfl) (x_call' rfl rfl cl26) (sum_h _ (by decide) _) ?_)
  rintro _ wq3 ⟨rfl, H4⟩
  replace H4 : S wq3 [Old w no] := H2.absorb (new := []) H4
  refine b_ret rfl rfl ?_
  refine l_of (s_call (wt0 rfl) (x_call' rfl rfl cl26) (sum_h _ (by decide) _) ?_)
  rintro _ wq5 ⟨rfl, H6⟩
  replace H6 : S wq5 [Old w no] := H4.absorb (new := []) H6
  refine b_ret rfl rfl ?_
  refine l_of (s_buildSlice H6 (wt0 rfl) rfl rfl rfl (vs := [.string ((sumS (⟨#[97]⟩ : ByteArray))), .string ((sumS (⟨#[98]⟩ : ByteArray))), .string ((sumS (⟨#[99]⟩ : ByteArray)))]) rfl Tryz.underlying22 sz9 ze9 rfl rfl (cells := #[.string ((sumS (⟨#[97]⟩ : ByteArray))), .string ((sumS (⟨#[98]⟩ : ByteArray))), .string ((sumS (⟨#[99]⟩ : ByteArray)))]) (by kernel_rfl) ?_)
  intro g7 wq8 H9
  refine l_of (s_val (v := .slice (some ⟨g7, 0, none⟩) (3) (3)) (wt0 rfl) rfl rfl (x_assign rfl rfl) ?_)
  refine g_nil ?_
  refine g_then ?_
  refine g_seq ?_
  refine g_region ?_
  refine l_of (s_val (v := .slice (some ⟨g7, 0, none⟩) (3) (3)) (wt0 rfl) rfl rfl (x_move rfl rfl) ?_)
  have hroot := root_s [(sumS ⟨#[97]⟩), (sumS ⟨#[98]⟩), (sumS ⟨#[99]⟩)] _ 3 3 rfl (by omega) wq8 (⟨rfl, Nat.le_refl _, fun _ => ⟨_, rfl, news_ob H9 (j0 := 0) rfl⟩⟩)
  rw [root3 (sumS_size _) (sumS_size _) (sumS_size _)] at hroot
  refine l_of (s_call (wt0 rfl) (x_call' rfl rfl cl6) hroot ?_)
  rintro _ wq10 ⟨rfl, H11⟩
  replace H11 : S wq10 [Ob g7 (.cells #[.string ((sumS (⟨#[97]⟩ : ByteArray))), .string ((sumS (⟨#[98]⟩ : ByteArray))), .string ((sumS (⟨#[99]⟩ : ByteArray)))] 9 (0, 0)), Old w no] := H9.absorb (new := []) H11
  refine b_ret rfl rfl ?_
  refine l_of (s_val (v := .tuple #[.string ((pairS (pairS (sumS ⟨#[97]⟩) (sumS ⟨#[98]⟩)) (pairS (sumS ⟨#[99]⟩) zeroB))), .int .i64 0]) (wt0 rfl) rfl rfl (x_move rfl rfl) ?_)
  refine l_of (s_val (v := .string ((pairS (pairS (sumS ⟨#[97]⟩) (sumS ⟨#[98]⟩)) (pairS (sumS ⟨#[99]⟩) zeroB)))) (wt0 rfl) rfl rfl (x_extract rfl rfl rfl) ?_)
  refine l_of (s_val (v := .int .i64 0) (wt0 rfl) rfl rfl (x_extract rfl rfl rfl) ?_)
  refine l_of (s_val (v := .string ((pairS (pairS (sumS ⟨#[97]⟩) (sumS ⟨#[98]⟩)) (pairS (sumS ⟨#[99]⟩) zeroB)))) (wt0 rfl) rfl rfl (x_assign rfl rfl) ?_)
  refine l_of (s_val (v := .int .i64 0) (wt0 rfl) rfl rfl (x_assign rfl rfl) ?_)
  refine g_nil ?_
  refine g_then ?_
  refine g_seq ?_
  refine g_region ?_
  refine l_of (s_val (v := .slice (some ⟨g7, 0, none⟩) (3) (3)) (wt0 rfl) rfl rfl (x_move rfl rfl) ?_)
  have hunc := uncles_t [(sumS ⟨#[97]⟩), (sumS ⟨#[98]⟩), (sumS ⟨#[99]⟩)] _ 3 3 rfl 0 2 (by omega) wq10 (⟨rfl, Nat.le_refl _, fun _ => ⟨_, rfl, news_ob H11 (j0 := 0) rfl⟩⟩)
  rw [uncles3 (sumS_size _) (sumS_size _) (sumS_size _)] at hunc
  refine l_of (s_call (wt0 rfl) (x_call' rfl rfl cl27) hunc ?_)
  rintro _ wq14 ⟨p12, c13, rfl, H15⟩
  replace H15 : S wq14 [Rw 9 1 p12 2 c13 (stV [zeroB, pairS (sumS ⟨#[97]⟩) (sumS ⟨#[98]⟩)]), Ob g7 (.cells #[.string ((sumS (⟨#[97]⟩ : ByteArray))), .string ((sumS (⟨#[98]⟩ : ByteArray))), .string ((sumS (⟨#[99]⟩ : ByteArray)))] 9 (0, 0)), Old w no] := H11.absorb (new := [Rw 9 1 p12 2 c13 (stV [zeroB, pairS (sumS ⟨#[97]⟩) (sumS ⟨#[98]⟩)])]) H15
  refine b_ret rfl rfl ?_
  refine l_of (s_val (v := .tuple #[.slice p12 2 c13, .int .i64 0]) (wt0 rfl) rfl rfl (x_move rfl rfl) ?_)
  refine l_of (s_val (v := .slice p12 2 c13) (wt0 rfl) rfl rfl (x_extract rfl rfl rfl) ?_)
  refine l_of (s_val (v := .int .i64 0) (wt0 rfl) rfl rfl (x_extract rfl rfl rfl) ?_)
  refine l_of (s_val (v := .slice p12 2 c13) (wt0 rfl) rfl rfl (x_assign rfl rfl) ?_)
  refine l_of (s_val (v := .int .i64 0) (wt0 rfl) rfl rfl (x_assign rfl rfl) ?_)
  refine g_nil ?_
  refine g_then ?_
  refine g_weak [(1, .slice (some ⟨g7, 0, none⟩) (3) (3)), (2, .string ((pairS (pairS (sumS ⟨#[97]⟩) (sumS ⟨#[98]⟩)) (pairS (sumS ⟨#[99]⟩) zeroB)))), (3, .int .i64 0), (4, .slice p12 2 c13), (5, .int .i64 0)] ⟨rfl, rfl, rfl, rfl, rfl, trivial⟩ ?_
  refine g_seq ?_
  refine g_quiet (by kernel_rfl) (by kernel_rfl) H15 ?_
  refine q_val (v := .int .i64 0) (wt0 rfl) rfl rfl (fun wx H => x_move rfl rfl) ?_
  refine q_val (v := .bool (decide ((0 : Int) = 0))) (wt0 rfl) rfl rfl (fun wx H => x_bin rfl rfl rfl b_eql) ?_
  refine q_val (v := .bool (decide ((0 : Int) = 0))) (wt0 rfl) rfl rfl (fun wx H => x_move rfl rfl) ?_
  refine q_val (v := .int .i64 0) (wt1 rfl rfl rfl rfl (decide_eq_true rfl)) rfl rfl (fun wx H => x_move rfl rfl) ?_
  refine q_val (v := .bool (decide ((0 : Int) = 0))) (wt1 rfl rfl rfl rfl (decide_eq_true rfl)) rfl rfl (fun wx H => x_bin rfl rfl rfl b_eql) ?_
  refine q_val (v := .bool (decide ((0 : Int) = 0))) (wt0 rfl) rfl rfl (fun wx H => x_pick_t rfl rfl (decide_eq_true rfl) rfl) ?_
  refine q_val (v := .bool (decide ((0 : Int) = 0))) (wt0 rfl) rfl rfl (fun wx H => x_move rfl rfl) ?_
  refine q_val (v := .string ((pairS (pairS (sumS ⟨#[97]⟩) (sumS ⟨#[98]⟩)) (pairS (sumS ⟨#[99]⟩) zeroB)))) (wt1 rfl rfl rfl rfl (decide_eq_true rfl)) rfl rfl (fun wx H => x_move rfl rfl) ?_
  refine q_val (v := .slice (some ⟨g7, 0, none⟩) (3) (3)) (wt1 rfl rfl rfl rfl (decide_eq_true rfl)) rfl rfl (fun wx H => x_move rfl rfl) ?_
  refine q_val (v := .pointer (some ⟨g7, 0, none⟩)) (wt1 rfl rfl rfl rfl (decide_eq_true rfl)) rfl rfl (fun wx H => x_indexAddr 0 rfl rfl rfl Tryz.underlying22 sz9 (by omega) (off' := 0) rfl) ?_
  refine q_val (v := .string ((sumS (⟨#[97]⟩ : ByteArray)))) (wt1 rfl rfl rfl rfl (decide_eq_true rfl)) rfl rfl (fun wx H => x_load1 H 1 rfl rfl Tryz.underlying9 rfl rfl rfl) ?_
  refine q_val (v := .slice (some ⟨g7, 0, none⟩) (3) (3)) (wt1 rfl rfl rfl rfl (decide_eq_true rfl)) rfl rfl (fun wx H => x_move rfl rfl) ?_
  refine q_val (v := .pointer (some ⟨g7, 1, none⟩)) (wt1 rfl rfl rfl rfl (decide_eq_true rfl)) rfl rfl (fun wx H => x_indexAddr 1 rfl rfl rfl Tryz.underlying22 sz9 (by omega) (off' := 1) rfl) ?_
  refine q_val (v := .string ((sumS (⟨#[98]⟩ : ByteArray)))) (wt1 rfl rfl rfl rfl (decide_eq_true rfl)) rfl rfl (fun wx H => x_load1 H 1 rfl rfl Tryz.underlying9 rfl rfl rfl) ?_
  refine q_call (wt1 rfl rfl rfl rfl (decide_eq_true rfl)) rfl rfl (fun wx H => x_call' rfl rfl cl28) (fun wx H => (pair_h _ _ (by simp only [sumS_size, pairS_size, zeroB_size]; omega) _).mono (by rintro _ _ ⟨rfl, h⟩; exact ⟨rfl, H.absorb (new := []) h⟩)) ?_
  refine q_val (v := .slice (some ⟨g7, 0, none⟩) (3) (3)) (wt1 rfl rfl rfl rfl (decide_eq_true rfl)) rfl rfl (fun wx H => x_move rfl rfl) ?_
  refine q_val (v := .pointer (some ⟨g7, 2, none⟩)) (wt1 rfl rfl rfl rfl (decide_eq_true rfl)) rfl rfl (fun wx H => x_indexAddr 2 rfl rfl rfl Tryz.underlying22 sz9 (by omega) (off' := 2) rfl) ?_
  refine q_val (v := .string ((sumS (⟨#[99]⟩ : ByteArray)))) (wt1 rfl rfl rfl rfl (decide_eq_true rfl)) rfl rfl (fun wx H => x_load1 H 1 rfl rfl Tryz.underlying9 rfl rfl rfl) ?_
  refine q_call (wt1 rfl rfl rfl rfl (decide_eq_true rfl)) rfl rfl (fun wx H => x_call' rfl rfl cl29) (fun wx H => (zero_h _).mono (by rintro _ _ ⟨rfl, h⟩; exact ⟨rfl, H.absorb (new := []) h⟩)) ?_
  refine q_call (wt1 rfl rfl rfl rfl (decide_eq_true rfl)) rfl rfl (fun wx H => x_call' rfl rfl cl28) (fun wx H => (pair_h _ _ (by simp only [sumS_size, pairS_size, zeroB_size]; omega) _).mono (by rintro _ _ ⟨rfl, h⟩; exact ⟨rfl, H.absorb (new := []) h⟩)) ?_
  refine q_call (wt1 rfl rfl rfl rfl (decide_eq_true rfl)) rfl rfl (fun wx H => x_call' rfl rfl cl28) (fun wx H => (pair_h _ _ (by simp only [sumS_size, pairS_size, zeroB_size]; omega) _).mono (by rintro _ _ ⟨rfl, h⟩; exact ⟨rfl, H.absorb (new := []) h⟩)) ?_
  refine q_val (v := .bool (decide ((pairS (pairS (sumS ⟨#[97]⟩) (sumS ⟨#[98]⟩)) (pairS (sumS ⟨#[99]⟩) zeroB)) = (pairS (pairS (sumS (⟨#[97]⟩ : ByteArray)) (sumS (⟨#[98]⟩ : ByteArray))) (pairS (sumS (⟨#[99]⟩ : ByteArray)) zeroB))))) (wt1 rfl rfl rfl rfl (decide_eq_true rfl)) rfl rfl (fun wx H => x_bin rfl rfl rfl b_eqs) ?_
  refine q_val (v := .bool (decide ((pairS (pairS (sumS ⟨#[97]⟩) (sumS ⟨#[98]⟩)) (pairS (sumS ⟨#[99]⟩) zeroB)) = (pairS (pairS (sumS (⟨#[97]⟩ : ByteArray)) (sumS (⟨#[98]⟩ : ByteArray))) (pairS (sumS (⟨#[99]⟩ : ByteArray)) zeroB))))) (wt0 rfl) rfl rfl (fun wx H => x_pick_t rfl rfl (decide_eq_true rfl) rfl) ?_
  refine q_val (v := .bool (decide ((pairS (pairS (sumS ⟨#[97]⟩) (sumS ⟨#[98]⟩)) (pairS (sumS ⟨#[99]⟩) zeroB)) = (pairS (pairS (sumS (⟨#[97]⟩ : ByteArray)) (sumS (⟨#[98]⟩ : ByteArray))) (pairS (sumS (⟨#[99]⟩ : ByteArray)) zeroB))))) (wt0 rfl) rfl rfl (fun wx H => x_move rfl rfl) ?_
  by_cases hb16 : (pairS (pairS (sumS ⟨#[97]⟩) (sumS ⟨#[98]⟩)) (pairS (sumS ⟨#[99]⟩) zeroB)) = (pairS (pairS (sumS (⟨#[97]⟩ : ByteArray)) (sumS (⟨#[98]⟩ : ByteArray))) (pairS (sumS (⟨#[99]⟩ : ByteArray)) zeroB))
  · skip
    refine q_val (v := .slice p12 2 c13) (wt1 rfl rfl rfl rfl (decide_eq_true hb16)) rfl rfl (fun wx H => x_move rfl rfl) ?_
    refine q_val (v := .int .i64 2) (wt1 rfl rfl rfl rfl (decide_eq_true hb16)) rfl rfl (fun wx H => x_lenl rfl rfl Tryz.underlying22) ?_
    refine q_val (v := .bool (decide ((2 : Int) = 2))) (wt1 rfl rfl rfl rfl (decide_eq_true hb16)) rfl rfl (fun wx H => x_bin rfl rfl rfl b_eql) ?_
    refine q_val (v := .bool (decide ((2 : Int) = 2))) (wt0 rfl) rfl rfl (fun wx H => x_pick_t rfl rfl (decide_eq_true hb16) rfl) ?_
    refine q_val (v := .bool (decide ((2 : Int) = 2))) (wt0 rfl) rfl rfl (fun wx H => x_move rfl rfl) ?_
    refine q_val (v := .slice p12 2 c13) (wt1 rfl rfl rfl rfl (decide_eq_true rfl)) rfl rfl (fun wx H => x_move rfl rfl) ?_
    refine q_val (v := .pointer ((p12).map fun q => q.add (0 * 1))) (wt1 rfl rfl rfl rfl (decide_eq_true rfl)) rfl rfl (fun wx H => x_idxP 0 (((H15.rwReads (k := 0) rfl).2.2 (by omega)).imp fun _ h => h.1) rfl rfl rfl Tryz.underlying22 sz9 (by omega)) ?_
    refine q_val (v := .string zeroB) (wt1 rfl rfl rfl rfl (decide_eq_true rfl)) rfl rfl (fun wx H => x_loadR1 0 (H.rwReads (k := 0) rfl) (by omega) rfl rfl Tryz.underlying9 rfl (rfl)) ?_
    refine q_call (wt1 rfl rfl rfl rfl (decide_eq_true rfl)) rfl rfl (fun wx H => x_call' rfl rfl cl29) (fun wx H => (zero_h _).mono (by rintro _ _ ⟨rfl, h⟩; exact ⟨rfl, H.absorb (new := []) h⟩)) ?_
    refine q_val (v := .bool (decide (zeroB = zeroB))) (wt1 rfl rfl rfl rfl (decide_eq_true rfl)) rfl rfl (fun wx H => x_bin rfl rfl rfl b_eqs) ?_
    refine q_val (v := .bool (decide (zeroB = zeroB))) (wt0 rfl) rfl rfl (fun wx H => x_pick_t rfl rfl (decide_eq_true rfl) rfl) ?_
    refine q_val (v := .bool (decide (zeroB = zeroB))) (wt0 rfl) rfl rfl (fun wx H => x_move rfl rfl) ?_
    refine q_val (v := .slice p12 2 c13) (wt1 rfl rfl rfl rfl (decide_eq_true rfl)) rfl rfl (fun wx H => x_move rfl rfl) ?_
    refine q_val (v := .pointer ((p12).map fun q => q.add (1 * 1))) (wt1 rfl rfl rfl rfl (decide_eq_true rfl)) rfl rfl (fun wx H => x_idxP 1 (((H15.rwReads (k := 0) rfl).2.2 (by omega)).imp fun _ h => h.1) rfl rfl rfl Tryz.underlying22 sz9 (by omega)) ?_
    refine q_val (v := .string ((pairS (sumS ⟨#[97]⟩) (sumS ⟨#[98]⟩)))) (wt1 rfl rfl rfl rfl (decide_eq_true rfl)) rfl rfl (fun wx H => x_loadR1 1 (H.rwReads (k := 0) rfl) (by omega) rfl rfl Tryz.underlying9 rfl (rfl)) ?_
    refine q_val (v := .slice (some ⟨g7, 0, none⟩) (3) (3)) (wt1 rfl rfl rfl rfl (decide_eq_true rfl)) rfl rfl (fun wx H => x_move rfl rfl) ?_
    refine q_val (v := .pointer (some ⟨g7, 0, none⟩)) (wt1 rfl rfl rfl rfl (decide_eq_true rfl)) rfl rfl (fun wx H => x_indexAddr 0 rfl rfl rfl Tryz.underlying22 sz9 (by omega) (off' := 0) rfl) ?_
    refine q_val (v := .string ((sumS (⟨#[97]⟩ : ByteArray)))) (wt1 rfl rfl rfl rfl (decide_eq_true rfl)) rfl rfl (fun wx H => x_load1 H 1 rfl rfl Tryz.underlying9 rfl rfl rfl) ?_
    refine q_val (v := .slice (some ⟨g7, 0, none⟩) (3) (3)) (wt1 rfl rfl rfl rfl (decide_eq_true rfl)) rfl rfl (fun wx H => x_move rfl rfl) ?_
    refine q_val (v := .pointer (some ⟨g7, 1, none⟩)) (wt1 rfl rfl rfl rfl (decide_eq_true rfl)) rfl rfl (fun wx H => x_indexAddr 1 rfl rfl rfl Tryz.underlying22 sz9 (by omega) (off' := 1) rfl) ?_
    refine q_val (v := .string ((sumS (⟨#[98]⟩ : ByteArray)))) (wt1 rfl rfl rfl rfl (decide_eq_true rfl)) rfl rfl (fun wx H => x_load1 H 1 rfl rfl Tryz.underlying9 rfl rfl rfl) ?_
    refine q_call (wt1 rfl rfl rfl rfl (decide_eq_true rfl)) rfl rfl (fun wx H => x_call' rfl rfl cl28) (fun wx H => (pair_h _ _ (by simp only [sumS_size, pairS_size, zeroB_size]; omega) _).mono (by rintro _ _ ⟨rfl, h⟩; exact ⟨rfl, H.absorb (new := []) h⟩)) ?_
    refine q_val (v := .bool (decide ((pairS (sumS ⟨#[97]⟩) (sumS ⟨#[98]⟩)) = (pairS (sumS (⟨#[97]⟩ : ByteArray)) (sumS (⟨#[98]⟩ : ByteArray)))))) (wt1 rfl rfl rfl rfl (decide_eq_true rfl)) rfl rfl (fun wx H => x_bin rfl rfl rfl b_eqs) ?_
    refine q_val (v := .bool (decide ((pairS (sumS ⟨#[97]⟩) (sumS ⟨#[98]⟩)) = (pairS (sumS (⟨#[97]⟩ : ByteArray)) (sumS (⟨#[98]⟩ : ByteArray)))))) (wt0 rfl) rfl rfl (fun wx H => x_pick_t rfl rfl (decide_eq_true rfl) rfl) ?_
    refine q_val (v := .bool (decide ((pairS (sumS ⟨#[97]⟩) (sumS ⟨#[98]⟩)) = (pairS (sumS (⟨#[97]⟩ : ByteArray)) (sumS (⟨#[98]⟩ : ByteArray)))))) (wt0 rfl) rfl rfl (fun wx H => x_assign rfl rfl) ?_
    refine q_nil (fun wq17 H18 => ?_)
    refine g_then ?_
    refine g_weak [(0, .bool (decide ((pairS (sumS ⟨#[97]⟩) (sumS ⟨#[98]⟩)) = (pairS (sumS (⟨#[97]⟩ : ByteArray)) (sumS (⟨#[98]⟩ : ByteArray))))))] ⟨rfl, trivial⟩ ?_
    refine g_ret ?_
    refine fin_ret [.tmp 0] [.bool (decide ((pairS (sumS ⟨#[97]⟩) (sumS ⟨#[98]⟩)) = (pairS (sumS (⟨#[97]⟩ : ByteArray)) (sumS (⟨#[98]⟩ : ByteArray)))))] rfl ⟨rfl, trivial⟩ ?_
    exact ⟨rfl, H18.mask [false, false, true]⟩
  · skip
    refine q_not (wn1 rfl rfl rfl rfl (decide_eq_false hb16)) rfl rfl ?_
    refine q_not (wn1 rfl rfl rfl rfl (decide_eq_false hb16)) rfl rfl ?_
    refine q_not (wn1 rfl rfl rfl rfl (decide_eq_false hb16)) rfl rfl ?_
    refine q_val (v := .bool false) (wt0 rfl) rfl rfl (fun wx H => x_pick_f rfl rfl (decide_eq_false hb16) rfl) ?_
    refine q_val (v := .bool false) (wt0 rfl) rfl rfl (fun wx H => x_move rfl rfl) ?_
    refine q_not (wn1 rfl rfl rfl rfl rfl) rfl rfl ?_
    refine q_not (wn1 rfl rfl rfl rfl rfl) rfl rfl ?_
    refine q_not (wn1 rfl rfl rfl rfl rfl) rfl rfl ?_
    refine q_not (wn1 rfl rfl rfl rfl rfl) rfl rfl ?_
    refine q_not (wn1 rfl rfl rfl rfl rfl) rfl rfl ?_
    refine q_val (v := .bool false) (wt0 rfl) rfl rfl (fun wx H => x_pick_f rfl rfl rfl rfl) ?_
    refine q_val (v := .bool false) (wt0 rfl) rfl rfl (fun wx H => x_move rfl rfl) ?_
    refine q_not (wn1 rfl rfl rfl rfl rfl) rfl rfl ?_
    refine q_not (wn1 rfl rfl rfl rfl rfl) rfl rfl ?_
    refine q_not (wn1 rfl rfl rfl rfl rfl) rfl rfl ?_
    refine q_not (wn1 rfl rfl rfl rfl rfl) rfl rfl ?_
    refine q_not (wn1 rfl rfl rfl rfl rfl) rfl rfl ?_
    refine q_not (wn1 rfl rfl rfl rfl rfl) rfl rfl ?_
    refine q_not (wn1 rfl rfl rfl rfl rfl) rfl rfl ?_
    refine q_not (wn1 rfl rfl rfl rfl rfl) rfl rfl ?_
    refine q_not (wn1 rfl rfl rfl rfl rfl) rfl rfl ?_
    refine q_not (wn1 rfl rfl rfl rfl rfl) rfl rfl ?_
    refine q_not (wn1 rfl rfl rfl rfl rfl) rfl rfl ?_
    refine q_val (v := .bool false) (wt0 rfl) rfl rfl (fun wx H => x_pick_f rfl rfl rfl rfl) ?_
    refine q_val (v := .bool false) (wt0 rfl) rfl rfl (fun wx H => x_assign rfl rfl) ?_
    refine q_nil (fun wq19 H20 => ?_)
    refine g_then ?_
    refine g_weak [(0, .bool false)] ⟨rfl, trivial⟩ ?_
    refine g_ret ?_
    refine fin_ret [.tmp 0] [.bool false] rfl ⟨rfl, trivial⟩ ?_
    exact absurd rfl hb16
end Go.Proofs.YtlajgickimgigaaGreat
