import Derived.Test.YtlajgickimgigaaUJ
set_option linter.unusedSimpArgs false
set_option linter.unusedVariables false
namespace Go.Proofs.Ytlajgickimgigaa
open Go.RowKit

theorem cl64 : callable Try.prog 64 = true := by kernel_rfl
theorem cl65 : callable Try.prog 65 = true := by kernel_rfl
/-- What Check meets. -/
def chkE (n : Int) (root : ByteArray) (v i : Int) (l u : List ByteArray) : Int :=
  if digsB l = true ∧ digsB u = true ∧ root.size = 32 then (if 1 ≤ n ∧ n ≤ 4096 then provE (tallN n.toNat) root v i l u else 7) else 1
theorem prov_split {h : Nat} {root : ByteArray} {v i : Int} {l u : List ByteArray} {e : Ending} {w w' : World}
    (hp : (provE h root v i l u = 0 ∧ ∃ g, e = .returned (.map (some g)) ∧ S w' ([Mp placeV Value.string placeOk g (provM v.toNat i.toNat l u)] ++ [Old w no])) ∨ (¬ provE h root v i l u = 0 ∧ e = .panicked [{ v := .iface 113 (.int .i64 (provE h root v i l u)), recovered := false }] ∧ S w' [Old w no])) :
    (provE h root v i l u = 0 ∧ ∃ g, e = .returned (.map (some g)) ∧ S w' ([Mp placeV Value.string placeOk g (provM v.toNat i.toNat l u)] ++ [Old w no])) ∨ (¬ provE h root v i l u = 0 ∧ e = .panicked [{ v := .iface 113 (.int .i64 (provE h root v i l u)), recovered := false }] ∧ S w' [Old w no]) := hp
set_option maxRecDepth 20000 in
set_option maxHeartbeats 4000000 in
set_option maxRecDepth 20000 in
set_option maxHeartbeats 4000000 in
theorem check_in (n : Int) (root : ByteArray) (v i : Int) (l u : List ByteArray) (p q : Option Addr) (c d : Nat) (hm : l.length ≤ 1099511627776) (hmu : u.length ≤ 1099511627776) (ba bb bc bd be bf : Nat) (w : World) (hr : Reads w p l.length c 1 (stV l)) (hu : Reads w q u.length d 1 (stV u)) (hba : w.cell? ⟨ba, 0, none⟩ = some (.slice p l.length c)) (hbb : w.cell? ⟨bb, 0, none⟩ = some (.slice q u.length d)) (hbc : w.cell? ⟨bc, 0, none⟩ = some (.string root)) (hbd : w.cell? ⟨bd, 0, none⟩ = some (.int .i64 n)) (hbe : w.cell? ⟨be, 0, none⟩ = some (.int .i64 v)) (hbf : w.cell? ⟨bf, 0, none⟩ = some (.int .i64 i)) : Calls Try.prog 64 #[.pointer (some ⟨ba, 0, none⟩), .pointer (some ⟨bb, 0, none⟩), .pointer (some ⟨bc, 0, none⟩), .pointer (some ⟨bd, 0, none⟩), .pointer (some ⟨be, 0, none⟩), .pointer (some ⟨bf, 0, none⟩)] w fun e w' => e = .returned (.int .i64 (chkE n root v i l u)) ∧ S w' [Old w no] := by
  have H0 := S.old w
  refine enter_d 29 Try.func64 rfl rfl rfl ?_
  refine g_weak [(0, .pointer (some ⟨ba, 0, none⟩)), (1, .pointer (some ⟨bb, 0, none⟩)), (2, .pointer (some ⟨bc, 0, none⟩)), (3, .pointer (some ⟨bd, 0, none⟩)), (4, .pointer (some ⟨be, 0, none⟩)), (5, .pointer (some ⟨bf, 0, none⟩))] ⟨rfl, rfl, rfl, rfl, rfl, rfl, trivial⟩ ?_
  refine g_seq ?_
  refine g_region ?_
  refine l_of (s_alloc H0 (wt0 rfl) rfl rfl rfl ze25 ?_)
  intro g1 wq2 H3
  refine g_nil ?_
  refine g_then ?_
  refine g_seq ?_
  refine g_region ?_
  refine l_of (s_defer (wt0 rfl) rfl (xd_defer rfl rfl rfl) ?_)
  refine g_nil ?_
  refine g_then ?_
  refine g_seq ?_
  refine g_region ?_
  refine l_of (s_val (v := .slice p l.length c) (wt0 rfl) rfl rfl (x_loadC rfl rfl Try.underlying22 rfl (H3.oldCell (k := 1) rfl hba id)) ?_)
  refine l_of (s_call (wt0 rfl) (x_call' rfl rfl cl47) (digests_s l p l.length c rfl hm _ (H3.oldReads (k := 1) rfl hr)) ?_)
  rintro _ wq4 ⟨rfl, H5⟩
  replace H5 : S wq4 [Ob g1 (.cells #[.int .i64 0] 25 (0, 0)), Old w no] := H3.absorb (new := []) H5
  refine b_ret rfl rfl ?_
  refine l_of (s_val (v := .bool (!((digsB l)))) (wt0 rfl) rfl rfl (x_not (b := (digsB l)) rfl rfl) ?_)
  refine l_of (s_val (v := .bool (!((digsB l)))) (wt0 rfl) rfl rfl (x_move rfl rfl) ?_)
  rcases Bool.eq_false_or_eq_true ((digsB l)) with hb6 | hb6
  · skip
    refine l_of (s_val (v := .slice q u.length d) (wt1 rfl rfl rfl rfl (neg_of hb6)) rfl rfl (x_loadC rfl rfl Try.underlying22 rfl (H5.oldCell (k := 1) rfl hbb id)) ?_)
    refine l_of (s_call (wt1 rfl rfl rfl rfl (neg_of hb6)) (x_call' rfl rfl cl47) (digests_s u q u.length d rfl hmu _ (H5.oldReads (k := 1) rfl hu)) ?_)
    rintro _ wq7 ⟨rfl, H8⟩
    replace H8 : S wq7 [Ob g1 (.cells #[.int .i64 0] 25 (0, 0)), Old w no] := H5.absorb (new := []) H8
    refine b_ret rfl rfl ?_
    refine l_of (s_val (v := .bool (!((digsB u)))) (wt1 rfl rfl rfl rfl (neg_of hb6)) rfl rfl (x_not (b := (digsB u)) rfl rfl) ?_)
    refine l_of (s_val (v := .bool (!((digsB u)))) (wt0 rfl) rfl rfl (x_pick_f rfl rfl (neg_of hb6) rfl) ?_)
    refine l_of (s_val (v := .bool (!((digsB u)))) (wt0 rfl) rfl rfl (x_move rfl rfl) ?_)
    rcases Bool.eq_false_or_eq_true ((digsB u)) with hb9 | hb9
    · skip
      refine l_of (s_val (v := .string root) (wt1 rfl rfl rfl rfl (neg_of hb9)) rfl rfl (x_loadC rfl rfl Try.underlying9 rfl (H8.oldCell (k := 1) rfl hbc id)) ?_)
      refine l_of (s_val (v := .int .i64 ((root.size : Int))) (wt1 rfl rfl rfl rfl (neg_of hb9)) rfl rfl (x_lens rfl rfl Try.underlying9) ?_)
      refine l_of (s_val (v := .bool (!decide (((root.size : Int) : Int) = 32))) (wt1 rfl rfl rfl rfl (neg_of hb9)) rfl rfl (x_bin rfl rfl rfl b_neq) ?_)
      refine l_of (s_val (v := .bool (!decide (((root.size : Int) : Int) = 32))) (wt0 rfl) rfl rfl (x_pick_f rfl rfl (neg_of hb9) rfl) ?_)
      by_cases hb10 : ((root.size : Int) : Int) = 32
      · skip
        refine l_of (s_call (wt0 rfl) (x_call' rfl rfl cl46) (fail_r _ _ (nf hb10) _) ?_)
        rintro _ wq11 ⟨rfl, H12⟩
        replace H12 : S wq11 [Ob g1 (.cells #[.int .i64 0] 25 (0, 0)), Old w no] := H8.absorb (new := []) H12
        refine b_ret rfl rfl ?_
        refine g_nil ?_
        refine g_then ?_
        refine g_weak [(0, .pointer (some ⟨ba, 0, none⟩)), (1, .pointer (some ⟨bb, 0, none⟩)), (2, .pointer (some ⟨bc, 0, none⟩)), (3, .pointer (some ⟨bd, 0, none⟩)), (4, .pointer (some ⟨be, 0, none⟩)), (5, .pointer (some ⟨bf, 0, none⟩)), (6, .pointer (some ⟨g1, 0, none⟩))] ⟨rfl, rfl, rfl, rfl, rfl, rfl, rfl, trivial⟩ ?_
        refine g_seq ?_
        refine g_any [(0, .pointer (some ⟨ba, 0, none⟩)), (1, .pointer (some ⟨bb, 0, none⟩)), (2, .pointer (some ⟨bc, 0, none⟩)), (3, .pointer (some ⟨bd, 0, none⟩)), (4, .pointer (some ⟨be, 0, none⟩)), (5, .pointer (some ⟨bf, 0, none⟩)), (6, .pointer (some ⟨g1, 0, none⟩))] (fun wx => S wx [Ob g1 (.cells #[.int .i64 0] 25 (0, 0)), Old w no]) [] (by kernel_rfl) H12 (fun wq13 H14 => ?_)
        refine a_take (v := .int .i64 n) 0 rfl (wt0 rfl) rfl rfl rfl (by kernel_rfl) (by kernel_rfl) (by kernel_rfl) (by kernel_rfl) H14 (fun wx H => x_loadC rfl rfl Try.underlying3 rfl (H.oldCell (k := 1) rfl hbd id)) ?_
        refine a_take (v := .string root) 2 rfl (wt0 rfl) rfl rfl rfl (by kernel_rfl) (by kernel_rfl) (by kernel_rfl) (by kernel_rfl) H14 (fun wx H => x_loadC rfl rfl Try.underlying9 rfl (H.oldCell (k := 1) rfl hbc id)) ?_
        refine a_take (v := .int .i64 v) 3 rfl (wt0 rfl) rfl rfl rfl (by kernel_rfl) (by kernel_rfl) (by kernel_rfl) (by kernel_rfl) H14 (fun wx H => x_loadC rfl rfl Try.underlying3 rfl (H.oldCell (k := 1) rfl hbe id)) ?_
        refine a_take (v := .int .i64 i) 4 rfl (wt0 rfl) rfl rfl rfl (by kernel_rfl) (by kernel_rfl) (by kernel_rfl) (by kernel_rfl) H14 (fun wx H => x_loadC rfl rfl Try.underlying3 rfl (H.oldCell (k := 1) rfl hbf id)) ?_
        refine a_take (v := .slice p l.length c) 5 rfl (wt0 rfl) rfl rfl rfl (by kernel_rfl) (by kernel_rfl) (by kernel_rfl) (by kernel_rfl) H14 (fun wx H => x_loadC rfl rfl Try.underlying22 rfl (H.oldCell (k := 1) rfl hba id)) ?_
        refine a_take (v := .slice q u.length d) 6 rfl (wt0 rfl) rfl rfl rfl (by kernel_rfl) (by kernel_rfl) (by kernel_rfl) (by kernel_rfl) H14 (fun wx H => x_loadC rfl rfl Try.underlying22 rfl (H.oldCell (k := 1) rfl hbb id)) ?_
        refine a_one (i := 1) (by kernel_rfl) rfl ?_
        by_cases hb15 : (n : Int) < 1
        · skip
          refine s_call (wt0 rfl) (x_call' rfl rfl cl48) (formed_p1 _ (of_decide_eq_true (decide_eq_true hb15)) _) ?_
          rintro _ wq16 ⟨rfl, H17⟩
          replace H17 : S wq16 [Ob g1 (.cells #[.int .i64 0] 25 (0, 0)), Old w no] := H14.absorb (new := []) H17
          refine b_panic ?_
          refine pan_in ⟨rfl, rfl, rfl, rfl, rfl, rfl, rfl, trivial⟩ ?_
          refine g_then_panic ?_
          refine fin_dpanic ?_
          refine gl_step (by simp) cl45 (caught_p g1 (7) (0) [] _ (H17.ob (k := 0) rfl)) ?_
          rintro _ _ wq18 ⟨⟨rfl, H19⟩, rfl⟩
          replace H19 : S wq18 [Ob g1 (.cells #[.int .i64 7] 25 (0, 0)), Old w no] := H17.absorbK (new := [Ob g1 (.cells #[.int .i64 7] 25 (0, 0))]) [0] (by intro g hg; subst hg; exact ⟨0, rfl, _, rfl, rfl⟩) H19
          refine (?_ : GL _ _ _ _ _ _ FrameMode.returning _)
          refine gl_ret [.cell 6 25] [.int .i64 7] rfl ⟨⟨_, rfl, run_load1 Try.underlying25 rfl (H19.cell (k := 0) rfl rfl)⟩, trivial⟩ ?_
          have hce : chkE n root v i l u = 7 := by unfold chkE; rw [if_pos ⟨hb6, hb9, by omega⟩, if_neg (by omega)]
          exact ⟨by rw [hce]; rfl, H19.mask [false, true]⟩
        · skip
          by_cases hb20 : (4096 : Int) < n
          · skip
            refine s_call (wt0 rfl) (x_call' rfl rfl cl48) (formed_p2 _ (of_decide_eq_true (decide_eq_true hb20)) _) ?_
            rintro _ wq21 ⟨rfl, H22⟩
            replace H22 : S wq21 [Ob g1 (.cells #[.int .i64 0] 25 (0, 0)), Old w no] := H14.absorb (new := []) H22
            refine b_panic ?_
            refine pan_in ⟨rfl, rfl, rfl, rfl, rfl, rfl, rfl, trivial⟩ ?_
            refine g_then_panic ?_
            refine fin_dpanic ?_
            refine gl_step (by simp) cl45 (caught_p g1 (7) (0) [] _ (H22.ob (k := 0) rfl)) ?_
            rintro _ _ wq23 ⟨⟨rfl, H24⟩, rfl⟩
            replace H24 : S wq23 [Ob g1 (.cells #[.int .i64 7] 25 (0, 0)), Old w no] := H22.absorbK (new := [Ob g1 (.cells #[.int .i64 7] 25 (0, 0))]) [0] (by intro g hg; subst hg; exact ⟨0, rfl, _, rfl, rfl⟩) H24
            refine (?_ : GL _ _ _ _ _ _ FrameMode.returning _)
            refine gl_ret [.cell 6 25] [.int .i64 7] rfl ⟨⟨_, rfl, run_load1 Try.underlying25 rfl (H24.cell (k := 0) rfl rfl)⟩, trivial⟩ ?_
            have hce : chkE n root v i l u = 7 := by unfold chkE; rw [if_pos ⟨hb6, hb9, by omega⟩, if_neg (by omega)]
            exact ⟨by rw [hce]; rfl, H24.mask [false, true]⟩
          · skip
            refine s_call (wt0 rfl) (x_call' rfl rfl cl48) (formed_i _ (by omega) (by omega) _) ?_
            rintro _ wq25 ⟨rfl, H26⟩
            replace H26 : S wq25 [Ob g1 (.cells #[.int .i64 0] 25 (0, 0)), Old w no] := H14.absorb (new := []) H26
            refine b_ret rfl rfl ?_
            refine a_k H26 ?_
            refine a_one (i := 7) (by kernel_rfl) rfl ?_
            refine s_call (wt0 rfl) (x_call' rfl rfl cl65) (proved_s _ (tallN n.toNat) root v i l u p q c d (tall_le12 (by omega)) hb6 hb9 hm hmu _ (H26.oldReads (k := 1) rfl hr) (H26.oldReads (k := 1) rfl hu)) ?_
            rintro _ wq27 (⟨hp30, g29, rfl, H28⟩ | ⟨hp30, rfl, H28⟩)
            · skip
              replace H28 : S wq27 [Mp placeV Value.string placeOk g29 (provM v.toNat i.toNat l u), Ob g1 (.cells #[.int .i64 0] 25 (0, 0)), Old w no] := H26.absorb (new := [Mp placeV Value.string placeOk g29 (provM v.toNat i.toNat l u)]) H28
              refine b_ret rfl rfl ?_
              refine a_k (H28.mask [false, true, true]) ?_
              refine a_done (by kernel_rfl) ?_
              refine g_then ?_
              refine g_weak [(6, .pointer (some ⟨g1, 0, none⟩))] ⟨rfl, trivial⟩ ?_
              refine g_seq ?_
              refine g_region ?_
              refine l_of (s_store H28 1 (wt0 rfl) rfl rfl rfl rfl rfl sz25 rfl rfl (cs' := #[.int .i64 0]) rfl ?_)
              intro wq31 H32
              refine g_nil ?_
              refine g_then ?_
              refine g_ret ?_
              refine fin_dret ?_
              refine gl_step (by simp) cl45 (caught_n g1 _) ?_
              rintro _ _ wq33 ⟨⟨rfl, H34⟩, rfl⟩
              replace H34 : S wq33 [Mp placeV Value.string placeOk g29 (provM v.toNat i.toNat l u), Ob g1 (.cells #[.int .i64 0] 25 (0, 0)), Old w no] := H32.absorb (new := []) H34
              refine (?_ : GL _ _ _ _ _ _ FrameMode.returning _)
              refine gl_ret [.cell 6 25] [.int .i64 0] rfl ⟨⟨_, rfl, run_load1 Try.underlying25 rfl (H34.cell (k := 1) rfl rfl)⟩, trivial⟩ ?_
              have hce : chkE n root v i l u = provE (tallN n.toNat) root v i l u := by unfold chkE; rw [if_pos ⟨hb6, hb9, by omega⟩, if_pos (by omega)]
              exact ⟨by rw [hce, hp30]; rfl, H34.mask [false, false, true]⟩
            · skip
              replace H28 : S wq27 [Ob g1 (.cells #[.int .i64 0] 25 (0, 0)), Old w no] := H26.absorb (new := []) H28
              refine b_panic ?_
              refine pan_in ⟨rfl, rfl, rfl, rfl, rfl, rfl, rfl, trivial⟩ ?_
              refine g_then_panic ?_
              refine fin_dpanic ?_
              refine gl_step (by simp) cl45 (caught_p g1 (provE (tallN n.toNat) root v i l u) (0) [] _ (H28.ob (k := 0) rfl)) ?_
              rintro _ _ wq35 ⟨⟨rfl, H36⟩, rfl⟩
              replace H36 : S wq35 [Ob g1 (.cells #[.int .i64 (provE (tallN n.toNat) root v i l u)] 25 (0, 0)), Old w no] := H28.absorbK (new := [Ob g1 (.cells #[.int .i64 (provE (tallN n.toNat) root v i l u)] 25 (0, 0))]) [0] (by intro g hg; subst hg; exact ⟨0, rfl, _, rfl, rfl⟩) H36
              refine (?_ : GL _ _ _ _ _ _ FrameMode.returning _)
              refine gl_ret [.cell 6 25] [.int .i64 (provE (tallN n.toNat) root v i l u)] rfl ⟨⟨_, rfl, run_load1 Try.underlying25 rfl (H36.cell (k := 0) rfl rfl)⟩, trivial⟩ ?_
              have hce : chkE n root v i l u = provE (tallN n.toNat) root v i l u := by unfold chkE; rw [if_pos ⟨hb6, hb9, by omega⟩, if_pos (by omega)]
              exact ⟨by rw [hce]; rfl, H36.mask [false, true]⟩
      · skip
        refine l_of (s_call (wt0 rfl) (x_call' rfl rfl cl46) (fail_p _ _ (nt hb10) _) ?_)
        rintro _ wq37 ⟨rfl, H38⟩
        replace H38 : S wq37 [Ob g1 (.cells #[.int .i64 0] 25 (0, 0)), Old w no] := H8.absorb (new := []) H38
        refine b_panic ?_
        refine g_then_panic ?_
        refine fin_dpanic ?_
        refine gl_step (by simp) cl45 (caught_p g1 (1) (0) [] _ (H38.ob (k := 0) rfl)) ?_
        rintro _ _ wq39 ⟨⟨rfl, H40⟩, rfl⟩
        replace H40 : S wq39 [Ob g1 (.cells #[.int .i64 1] 25 (0, 0)), Old w no] := H38.absorbK (new := [Ob g1 (.cells #[.int .i64 1] 25 (0, 0))]) [0] (by intro g hg; subst hg; exact ⟨0, rfl, _, rfl, rfl⟩) H40
        refine (?_ : GL _ _ _ _ _ _ FrameMode.returning _)
        refine gl_ret [.cell 6 25] [.int .i64 1] rfl ⟨⟨_, rfl, run_load1 Try.underlying25 rfl (H40.cell (k := 0) rfl rfl)⟩, trivial⟩ ?_
        have hce : chkE n root v i l u = 1 := by unfold chkE; rw [if_neg (fun hq => absurd hq.2.2 (by omega))]
        exact ⟨by rw [hce]; rfl, H40.mask [false, true]⟩
    · skip
      refine l_of (s_not (wn1 rfl rfl rfl rfl (neg_of hb9)) rfl rfl ?_)
      refine l_of (s_not (wn1 rfl rfl rfl rfl (neg_of hb9)) rfl rfl ?_)
      refine l_of (s_not (wn1 rfl rfl rfl rfl (neg_of hb9)) rfl rfl ?_)
      refine l_of (s_val (v := .bool true) (wt0 rfl) rfl rfl (x_pick_t rfl rfl (neg_of hb9) rfl) ?_)
      refine l_of (s_call (wt0 rfl) (x_call' rfl rfl cl46) (fail_p _ _ rfl _) ?_)
      rintro _ wq41 ⟨rfl, H42⟩
      replace H42 : S wq41 [Ob g1 (.cells #[.int .i64 0] 25 (0, 0)), Old w no] := H8.absorb (new := []) H42
      refine b_panic ?_
      refine g_then_panic ?_
      refine fin_dpanic ?_
      refine gl_step (by simp) cl45 (caught_p g1 (1) (0) [] _ (H42.ob (k := 0) rfl)) ?_
      rintro _ _ wq43 ⟨⟨rfl, H44⟩, rfl⟩
      replace H44 : S wq43 [Ob g1 (.cells #[.int .i64 1] 25 (0, 0)), Old w no] := H42.absorbK (new := [Ob g1 (.cells #[.int .i64 1] 25 (0, 0))]) [0] (by intro g hg; subst hg; exact ⟨0, rfl, _, rfl, rfl⟩) H44
      refine (?_ : GL _ _ _ _ _ _ FrameMode.returning _)
      refine gl_ret [.cell 6 25] [.int .i64 1] rfl ⟨⟨_, rfl, run_load1 Try.underlying25 rfl (H44.cell (k := 0) rfl rfl)⟩, trivial⟩ ?_
      have hce : chkE n root v i l u = 1 := by unfold chkE; rw [if_neg (fun hq => by rw [hb9] at hq; exact Bool.false_ne_true hq.2.1)]
      exact ⟨by rw [hce]; rfl, H44.mask [false, true]⟩
  · skip
    refine l_of (s_not (wn1 rfl rfl rfl rfl (neg_of hb6)) rfl rfl ?_)
    refine l_of (s_not (wn1 rfl rfl rfl rfl (neg_of hb6)) rfl rfl ?_)
    refine l_of (s_not (wn1 rfl rfl rfl rfl (neg_of hb6)) rfl rfl ?_)
    refine l_of (s_val (v := .bool true) (wt0 rfl) rfl rfl (x_pick_t rfl rfl (neg_of hb6) rfl) ?_)
    refine l_of (s_val (v := .bool true) (wt0 rfl) rfl rfl (x_move rfl rfl) ?_)
    refine l_of (s_not (wn1 rfl rfl rfl rfl rfl) rfl rfl ?_)
    refine l_of (s_not (wn1 rfl rfl rfl rfl rfl) rfl rfl ?_)
    refine l_of (s_not (wn1 rfl rfl rfl rfl rfl) rfl rfl ?_)
    refine l_of (s_val (v := .bool true) (wt0 rfl) rfl rfl (x_pick_t rfl rfl rfl rfl) ?_)
    refine l_of (s_call (wt0 rfl) (x_call' rfl rfl cl46) (fail_p _ _ rfl _) ?_)
    rintro _ wq45 ⟨rfl, H46⟩
    replace H46 : S wq45 [Ob g1 (.cells #[.int .i64 0] 25 (0, 0)), Old w no] := H5.absorb (new := []) H46
    refine b_panic ?_
    refine g_then_panic ?_
    refine fin_dpanic ?_
    refine gl_step (by simp) cl45 (caught_p g1 (1) (0) [] _ (H46.ob (k := 0) rfl)) ?_
    rintro _ _ wq47 ⟨⟨rfl, H48⟩, rfl⟩
    replace H48 : S wq47 [Ob g1 (.cells #[.int .i64 1] 25 (0, 0)), Old w no] := H46.absorbK (new := [Ob g1 (.cells #[.int .i64 1] 25 (0, 0))]) [0] (by intro g hg; subst hg; exact ⟨0, rfl, _, rfl, rfl⟩) H48
    refine (?_ : GL _ _ _ _ _ _ FrameMode.returning _)
    refine gl_ret [.cell 6 25] [.int .i64 1] rfl ⟨⟨_, rfl, run_load1 Try.underlying25 rfl (H48.cell (k := 0) rfl rfl)⟩, trivial⟩ ?_
    have hce : chkE n root v i l u = 1 := by unfold chkE; rw [if_neg (fun hq => by rw [hb6] at hq; exact Bool.false_ne_true hq.1)]
    exact ⟨by rw [hce]; rfl, H48.mask [false, true]⟩
set_option maxRecDepth 20000 in
set_option maxHeartbeats 4000000 in
set_option maxRecDepth 20000 in
set_option maxHeartbeats 4000000 in
theorem check_s (n : Int) (root : ByteArray) (v i : Int) (l u : List ByteArray) (p q : Option Addr) (c d : Nat) (hm : l.length ≤ 1099511627776) (hmu : u.length ≤ 1099511627776) (w : World) (hr : Reads w p l.length c 1 (stV l)) (hu : Reads w q u.length d 1 (stV u)) : Calls Try.prog 24 #[.string root, .int .i64 n, .int .i64 v, .int .i64 i, .slice p l.length c, .slice q u.length d] w fun e w' => e = .returned (.bool (decide (chkE n root v i l u = 0))) ∧ S w' [Old w no] := by
  have H0 := S.old w
  refine enter 18 Try.func24 rfl rfl rfl ?_
  refine g_weak [(0, .string root), (1, .int .i64 n), (2, .int .i64 v), (3, .int .i64 i), (4, .slice p l.length c), (5, .slice q u.length d)] ⟨rfl, rfl, rfl, rfl, rfl, rfl, trivial⟩ ?_
  refine g_seq ?_
  refine g_region ?_
  refine l_of (s_box H0 (wt0 rfl) rfl rfl rfl rfl ?_)
  intro g1 wq2 H3
  refine l_of (s_box H3 (wt0 rfl) rfl rfl rfl rfl ?_)
  intro g4 wq5 H6
  refine l_of (s_box H6 (wt0 rfl) rfl rfl rfl rfl ?_)
  intro g7 wq8 H9
  refine l_of (s_box H9 (wt0 rfl) rfl rfl rfl rfl ?_)
  intro g10 wq11 H12
  refine l_of (s_box H12 (wt0 rfl) rfl rfl rfl rfl ?_)
  intro g13 wq14 H15
  refine l_of (s_box H15 (wt0 rfl) rfl rfl rfl rfl ?_)
  intro g16 wq17 H18
  refine l_of (s_val (v := .bool false) (wt0 rfl) rfl rfl (x_assign rfl rfl) ?_)
  refine g_nil ?_
  refine g_then ?_
  refine g_seq ?_
  refine g_region ?_
  refine l_of (s_val (v := .func (.func 64) #[] #[.pointer (some ⟨g13, 0, none⟩), .pointer (some ⟨g16, 0, none⟩), .pointer (some ⟨g1, 0, none⟩), .pointer (some ⟨g4, 0, none⟩), .pointer (some ⟨g7, 0, none⟩), .pointer (some ⟨g10, 0, none⟩)]) (wt0 rfl) rfl rfl (x_makeFunc rfl rfl rfl) ?_)
  refine l_of (s_call (wt0 rfl) (x_call rfl rfl rfl cl64) (check_in n root v i l u p q c d hm hmu g13 g16 g1 g4 g7 g10 _ (H18.oldReads (k := 6) rfl hr) (H18.oldReads (k := 6) rfl hu) (H18.cell (k := 1) rfl rfl) (H18.cell (k := 0) rfl rfl) (H18.cell (k := 5) rfl rfl) (H18.cell (k := 4) rfl rfl) (H18.cell (k := 3) rfl rfl) (H18.cell (k := 2) rfl rfl)) ?_)
  rintro _ wq19 ⟨rfl, H20⟩
  replace H20 : S wq19 [Ob g16 (.cells #[.slice q u.length d] 22 (0, 0)), Ob g13 (.cells #[.slice p l.length c] 22 (0, 0)), Ob g10 (.cells #[.int .i64 i] 3 (0, 0)), Ob g7 (.cells #[.int .i64 v] 3 (0, 0)), Ob g4 (.cells #[.int .i64 n] 3 (0, 0)), Ob g1 (.cells #[.string root] 9 (0, 0)), Old w no] := H18.absorb (new := []) H20
  refine b_ret rfl rfl ?_
  refine l_of (s_val (v := .int .i64 ((chkE n root v i l u))) (wt0 rfl) rfl rfl (x_assign rfl rfl) ?_)
  refine g_nil ?_
  refine g_then ?_
  refine g_weak [(13, .int .i64 ((chkE n root v i l u)))] ⟨rfl, trivial⟩ ?_
  refine g_seq ?_
  refine g_region ?_
  refine l_of (s_val (v := .int .i64 ((chkE n root v i l u))) (wt0 rfl) rfl rfl (x_move rfl rfl) ?_)
  refine l_of (s_val (v := .bool (decide (((chkE n root v i l u) : Int) = 0))) (wt0 rfl) rfl rfl (x_bin rfl rfl rfl b_eql) ?_)
  refine l_of (s_val (v := .bool (decide (((chkE n root v i l u) : Int) = 0))) (wt0 rfl) rfl rfl (x_assign rfl rfl) ?_)
  refine g_nil ?_
  refine g_then ?_
  refine g_ret ?_
  refine fin_ret [.tmp 12] [.bool (decide (((chkE n root v i l u) : Int) = 0))] rfl ⟨rfl, trivial⟩ ?_
  exact ⟨rfl, H20.mask [false, false, false, false, false, false, true]⟩
end Go.Proofs.Ytlajgickimgigaa
namespace Go.Proofs.Ytlajgickimgigaa
open Go.RowKit

/-- The nodes from a run's top up to the root. -/
def wayTo (b : Nat) (t0 : ByteArray) (u : List ByteArray) (k : Nat) : List ByteArray := (List.range k).map (topS b t0 u)
theorem wayTo_next (b : Nat) (t0 : ByteArray) (u : List ByteArray) (k : Nat) : wayTo b t0 u (k + 1) = wayTo b t0 u k ++ [topS b t0 u k] := by unfold wayTo; simp [List.range_succ]
theorem wayTo_len (b : Nat) (t0 : ByteArray) (u : List ByteArray) (k : Nat) : (wayTo b t0 u k).length = k := by unfold wayTo; simp
theorem way_at {b : Nat} {t0 : ByteArray} {u : List ByteArray} {k s : Nat} (h : s < k) : (stV (wayTo b t0 u k))[s * 1]? = some (.string (topS b t0 u s)) := by
  unfold stV wayTo
  rw [Nat.mul_one, List.getElem?_map, List.getElem?_map, List.getElem?_range h]; rfl
set_option maxRecDepth 20000 in
set_option maxHeartbeats 4000000 in
set_option maxRecDepth 20000 in
set_option maxHeartbeats 4000000 in
theorem way_r (i : Nat) (l u : List ByteArray) (p q : Option Addr) (c d : Nat) (r5 : 2 ^ tallN l.length = l.length) (hmm : l.length ≤ 4096) (hi : i ≤ 1099511627776) (hdl : digsB l = true) (hdu : digsB u = true) (hmu : u.length ≤ 1099511627776) (w : World) (hr : Reads w p l.length c 1 (stV l)) (hu : Reads w q u.length d 1 (stV u)) : Calls Try.prog 68 #[.int .i64 ((i : Int)), .slice p l.length c, .slice q u.length d] w fun e w' => ∃ p' c', e = .returned (.slice p' (u.length + 1) c') ∧ S w' ([Rw 9 1 p' (u.length + 1) c' (stV (wayTo (i / 2 ^ (tallN l.length)) ((upN (tallN l.length) l).getD 0 ⟨#[]⟩) u (u.length + 1)))] ++ [Old w no]) := by
  have H0 := S.old w
  refine enter 58 Try.func68 rfl rfl rfl ?_
  refine g_weak [(0, .int .i64 ((i : Int))), (1, .slice p l.length c), (2, .slice q u.length d)] ⟨rfl, rfl, rfl, trivial⟩ ?_
  refine g_seq ?_
  refine g_region ?_
  refine l_of (s_val (v := .slice none 0 0) (wt0 rfl) rfl rfl (x_assign rfl rfl) ?_)
  refine g_nil ?_
  refine g_then ?_
  refine g_seq ?_
  refine g_region ?_
  refine l_of (s_val (v := .slice p l.length c) (wt0 rfl) rfl rfl (x_move rfl rfl) ?_)
  refine l_of (s_val (v := .slice p l.length c) (wt0 rfl) rfl rfl (x_assign rfl rfl) ?_)
  refine g_nil ?_
  refine g_then ?_
  refine g_seq ?_
  refine g_region ?_
  refine l_of (s_val (v := .int .i64 ((i : Int))) (wt0 rfl) rfl rfl (x_move rfl rfl) ?_)
  refine l_of (s_val (v := .slice p l.length c) (wt0 rfl) rfl rfl (x_move rfl rfl) ?_)
  refine l_of (s_val (v := .int .i64 ((l.length : Int))) (wt0 rfl) rfl rfl (x_lenl rfl rfl Try.underlying22) ?_)
  have hl0 : 0 < l.length := by rw [← r5]; exact Nat.two_pow_pos _
  obtain ⟨b, hb⟩ : ∃ b, b = i / 2 ^ (tallN l.length) := ⟨_, rfl⟩
  have hbi : b ≤ i := by rw [hb]; exact Nat.div_le_self _ _
  refine l_of (s_val (v := .int .i64 ((b : Int))) (wt0 rfl) rfl rfl (x_bin rfl rfl rfl (show Bin _ _ _ _ _ (.int .i64 (i : Int)) (.int .i64 (l.length : Int)) _ (.int .i64 (b : Int)) from by have := b_quoN (P := Try.prog) (t := 3) (xo := .tmp 14) (yo := .tmp 16) (w := w) (a := i) (b := l.length) (by omega); rw [hb, r5]; exact this)) ?_)
  refine l_of (s_val (v := .int .i64 ((b : Int))) (wt0 rfl) rfl rfl (x_assign rfl rfl) ?_)
  refine g_nil ?_
  refine g_then ?_
  refine g_seq ?_
  refine g_block ?_
  refine g_loop (ι := Nat × Option Addr × Nat × Item) (fun (j, q1, d1, X) => [(2, .slice q u.length d), (7, .slice q1 (upN j l).length d1), (8, .int .i64 ((b : Int)))]) (fun (j, q1, d1, X) wx => (j ≤ (tallN l.length)) ∧ ((upN j l).length = 2 ^ ((tallN l.length) - j)) ∧ (digsB (upN j l) = true) ∧ (∀ W, (Old w no).ok W → X.ok W → Reads W q1 (upN j l).length d1 1 (stV (upN j l))) ∧ S wx [X, Old w no]) (fun (j, q1, d1, X) => (tallN l.length) - j) (0, p, c, Big []) ⟨rfl, rfl, rfl, trivial⟩ ⟨Nat.zero_le _, by rw [Nat.sub_zero, r5]; rfl, hdl, (fun W hW _ => reads_old hW hr), (H0.nilBig)⟩ ?_
  rintro ⟨j, q1, d1, X⟩ wq2 ⟨hj, hlen, hdj, hX, H3⟩
  replace H3 : S wq2 [X, Old w no] := H3
  refine g_weak [(2, .slice q u.length d), (7, .slice q1 (upN j l).length d1), (8, .int .i64 ((b : Int)))] ⟨rfl, rfl, rfl, trivial⟩ ?_
  have hz : ∀ s, s < (upN j l).length → ((upN j l).getD s ⟨#[]⟩).size ≤ 65536 := fun s hs => getD_size (digs_size hdj) hs
  have hkj : 2 ^ (tallN l.length - j) ≤ 2 ^ tallN l.length := Nat.pow_le_pow_right (by omega) (by omega)
  refine g_seq ?_
  refine g_seq ?_
  refine g_region ?_
  refine l_of (s_val (v := .slice q1 (upN j l).length d1) (wt0 rfl) rfl rfl (x_move rfl rfl) ?_)
  refine l_of (s_val (v := .int .i64 (((upN j l).length : Int))) (wt0 rfl) rfl rfl (x_lenl rfl rfl Try.underlying22) ?_)
  refine l_of (s_val (v := .bool (decide ((1 : Int) < ((upN j l).length : Int)))) (wt0 rfl) rfl rfl (x_bin rfl rfl rfl b_gtr) ?_)
  refine g_nil ?_
  refine g_then ?_
  by_cases hb4 : (1 : Int) < ((upN j l).length : Int)
  · skip
    obtain ⟨Q, hQ, hjlt⟩ := upN_even (K := (tallN l.length)) hlen (by omega)
    refine g_cond_t rfl (decide_eq_true hb4) ?_
    refine g_skip ?_
    refine g_then ?_
    refine g_block ?_
    refine g_region ?_
    refine l_of (s_val (v := .slice q1 (upN j l).length d1) (wt0 rfl) rfl rfl (x_move rfl rfl) ?_)
    refine l_of (s_call (wt0 rfl) (x_call' rfl rfl cl55) (up_r (upN j l) q1 _ d1 rfl hz (by omega) _ (hX _ (H3.at (k := 1) rfl) (H3.at (k := 0) rfl))) ?_)
    rintro _ wq7 ⟨p5, c6, rfl, H8⟩
    replace H8 : S wq7 [Rw 9 1 p5 ((upN j l).length / 2) c6 (stV (upS (upN j l))), X, Old w no] := H3.absorb (new := [Rw 9 1 p5 ((upN j l).length / 2) c6 (stV (upS (upN j l)))]) H8
    refine b_ret rfl rfl ?_
    refine l_of (s_val (v := .slice p5 ((upN j l).length / 2) c6) (wt0 rfl) rfl rfl (x_assign rfl rfl) ?_)
    refine g_nil ?_
    refine g_in ?_
    refine g_then ?_
    have hlen2 : (upN (j + 1) l).length = 2 ^ ((tallN l.length) - (j + 1)) := upN_len (j + 1) (tallN l.length) l (by rw [r5]) (by omega)
    have hup : upN (j + 1) l = upS (upN j l) := upN_snoc j l
    have hlq : (upN j l).length / 2 = (upN (j + 1) l).length := by rw [hup, upS_len]
    have H9 : S wq7 [Rw 9 1 p5 (upN (j + 1) l).length c6 (stV (upN (j + 1) l)), Old w no] := by rw [← hlq, hup]; exact H8.takes [0, 2] (by decide)
    have hX2 : ∀ W, (Old w no).ok W → (Rw 9 1 p5 (upN (j + 1) l).length c6 (stV (upN (j + 1) l))).ok W → Reads W p5 (upN (j + 1) l).length c6 1 (stV (upN (j + 1) l)) := fun W _ h => reads_rw h
    rw [hlq]
    refine g_round (i := (j, q1, d1, X)) (j + 1, p5, c6, (Rw 9 1 p5 (upN (j + 1) l).length c6 (stV (upN (j + 1) l)))) ?_ ?_ ?_
    · exact ⟨rfl, rfl, rfl, trivial⟩
    · exact ⟨by omega, hlen2, (upN_digs hdl _), hX2, H9⟩
    · (try dsimp only); omega
  · skip
    have hp0 : 0 < 2 ^ ((tallN l.length) - j) := Nat.two_pow_pos _
    have hjk : j = (tallN l.length) := by have := pow_one (t := (tallN l.length) - j) (by omega); omega
    subst hjk
    have hu1 : (upN (tallN l.length) l).length = 1 := by omega
    refine g_cond_f rfl (decide_eq_false hb4) ?_
    refine g_exit ?_
    refine g_then_exit ?_
    refine g_then_exit ?_
    refine g_in_hit ?_
    refine g_then ?_
    refine g_seq ?_
    refine g_region ?_
    refine l_of (s_val (v := .slice q1 (upN (tallN l.length) l).length d1) (wt0 rfl) rfl rfl (x_move rfl rfl) ?_)
    refine l_of (s_val (v := .pointer ((q1).map fun q => q.add (0 * 1))) (wt0 rfl) rfl rfl (x_idxR 0 (hX _ (H3.at (k := 1) rfl) (H3.at (k := 0) rfl)) rfl rfl rfl Try.underlying22 sz9 (by omega)) ?_)
    refine l_of (s_val (v := .string (((upN (tallN l.length) l).getD (0) ⟨#[]⟩))) (wt0 rfl) rfl rfl (x_loadR1 0 (hX _ (H3.at (k := 1) rfl) (H3.at (k := 0) rfl)) (by omega) rfl rfl Try.underlying9 rfl (stV_at (by omega))) ?_)
    refine l_of (s_buildSlice H3 (wt0 rfl) rfl rfl rfl (vs := [.string (((upN (tallN l.length) l).getD (0) ⟨#[]⟩))]) rfl Try.underlying22 sz9 ze9 rfl rfl (cells := #[.string (((upN (tallN l.length) l).getD (0) ⟨#[]⟩))]) (by kernel_rfl) ?_)
    intro g10 wq11 H12
    have H13 : S wq11 [Rw 9 1 (some ⟨g10, 0, none⟩) 1 1 (stV (wayTo b ((upN (tallN l.length) l).getD 0 ⟨#[]⟩) u 1)), X, Old w no] := H12.obRw (k := 0) (size := 1) (n := 1) rfl rfl (by decide)
    refine l_of (s_val (v := .slice (some ⟨g10, 0, none⟩) 1 1) (wt0 rfl) rfl rfl (x_assign rfl rfl) ?_)
    refine g_nil ?_
    refine g_then ?_
    refine g_seq ?_
    refine g_seq ?_
    refine g_region ?_
    refine l_of (s_val (v := .slice q u.length d) (wt0 rfl) rfl rfl (x_move rfl rfl) ?_)
    refine l_of (s_val (v := .int .i64 ((u.length : Int))) (wt0 rfl) rfl rfl (x_lenl rfl rfl Try.underlying22) ?_)
    refine l_of (s_val (v := .int .i64 0) (wt0 rfl) rfl rfl (x_move rfl rfl) ?_)
    refine g_nil ?_
    refine g_then ?_
    refine g_block ?_
    refine g_loop (ι := Nat × Nat × Option Addr × Nat) (fun (s, bs, qq, dd) => [(8, .int .i64 ((bs : Int))), (9, .slice qq (s + 1) dd), (27, .slice q u.length d), (28, .int .i64 ((u.length : Int))), (29, .int .i64 ((s : Int)))]) (fun (s, bs, qq, dd) wx => (s ≤ u.length) ∧ (bs = b / 2 ^ s) ∧ S wx [Rw 9 1 qq (s + 1) dd (stV (wayTo b ((upN (tallN l.length) l).getD 0 ⟨#[]⟩) u (s + 1))), Old w no]) (fun (s, bs, qq, dd) => u.length - s) (0, b, (some ⟨g10, 0, none⟩), 1) ⟨rfl, rfl, rfl, rfl, rfl, trivial⟩ ⟨Nat.zero_le _, by rw [Nat.pow_zero, Nat.div_one], (H13.takes [0, 2] (by decide))⟩ ?_
    rintro ⟨s, bs, qq, dd⟩ wq14 ⟨hs, hbs, H15⟩
    replace H15 : S wq14 [Rw 9 1 qq (s + 1) dd (stV (wayTo b ((upN (tallN l.length) l).getD 0 ⟨#[]⟩) u (s + 1))), Old w no] := H15
    refine g_weak [(8, .int .i64 ((bs : Int))), (9, .slice qq (s + 1) dd), (27, .slice q u.length d), (28, .int .i64 ((u.length : Int))), (29, .int .i64 ((s : Int)))] ⟨rfl, rfl, rfl, rfl, rfl, trivial⟩ ?_
    have hbsi : bs ≤ b := by rw [hbs]; exact Nat.div_le_self _ _
    have htz : (topS b ((upN (tallN l.length) l).getD 0 ⟨#[]⟩) u s).size = 32 := topS_size (digs_get hdj (by omega)) s
    refine g_seq ?_
    refine g_region ?_
    refine l_of (s_val (v := .bool (decide (((s : Int) : Int) < (u.length : Int)))) (wt0 rfl) rfl rfl (x_bin rfl rfl rfl b_lss) ?_)
    refine g_nil ?_
    refine g_then ?_
    refine g_seq ?_
    by_cases hb16 : ((s : Int) : Int) < (u.length : Int)
    · skip
      have hus : (u.getD s ⟨#[]⟩).size = 32 := digs_get hdu (by omega)
      refine g_cond_t rfl (decide_eq_true hb16) ?_
      refine g_skip ?_
      refine g_then ?_
      refine g_seq ?_
      refine g_block ?_
      refine g_seq ?_
      refine g_region ?_
      refine l_of (s_val (v := .pointer ((q).map fun q => q.add (s * 1))) (wt0 rfl) rfl rfl (x_idxR s (H15.oldReads (k := 1) rfl hu) rfl rfl rfl Try.underlying22 sz9 (by omega)) ?_)
      refine l_of (s_val (v := .string ((u.getD (s) ⟨#[]⟩))) (wt0 rfl) rfl rfl (x_loadR1 s (H15.oldReads (k := 1) rfl hu) (by omega) rfl rfl Try.underlying9 rfl (stV_at (by omega))) ?_)
      refine l_of (s_val (v := .string ((u.getD (s) ⟨#[]⟩))) (wt0 rfl) rfl rfl (x_assign rfl rfl) ?_)
      refine g_nil ?_
      refine g_then ?_
      refine g_seq ?_
      refine g_region ?_
      refine l_of (s_val (v := .slice qq (s + 1) dd) (wt0 rfl) rfl rfl (x_move rfl rfl) ?_)
      refine l_of (s_val (v := .slice qq (s + 1) dd) (wt0 rfl) rfl rfl (x_move rfl rfl) ?_)
      refine l_of (s_val (v := .int .i64 (((s + 1) : Int))) (wt0 rfl) rfl rfl (x_lenl rfl rfl Try.underlying22) ?_)
      refine l_of (s_val (v := .int .i64 ((s : Int))) (wt0 rfl) rfl rfl (x_bin rfl rfl rfl (b_sub (r := (s : Int)) (by rw [w64 (by omega)]; omega))) ?_)
      refine l_of (s_val (v := .pointer ((qq).map fun q => q.add (s * 1))) (wt0 rfl) rfl rfl (x_idxR s (H15.rwReads (k := 0) rfl) rfl rfl rfl Try.underlying22 sz9 (by omega)) ?_)
      refine l_of (s_val (v := .string ((topS b ((upN (tallN l.length) l).getD 0 ⟨#[]⟩) u s))) (wt0 rfl) rfl rfl (x_loadR1 s (H15.rwReads (k := 0) rfl) (by omega) rfl rfl Try.underlying9 rfl (way_at (by omega))) ?_)
      refine l_of (s_val (v := .string ((topS b ((upN (tallN l.length) l).getD 0 ⟨#[]⟩) u s))) (wt0 rfl) rfl rfl (x_assign rfl rfl) ?_)
      refine g_nil ?_
      refine g_then ?_
      refine g_seq ?_
      refine g_seq ?_
      refine g_region ?_
      refine l_of (s_val (v := .int .i64 ((bs : Int))) (wt0 rfl) rfl rfl (x_move rfl rfl) ?_)
      refine l_of (s_val (v := .int .i64 (((bs % 2 : Nat) : Int))) (wt0 rfl) rfl rfl (x_bin rfl rfl rfl (b_remN (a := bs) (b := 2) (by omega))) ?_)
      refine l_of (s_val (v := .bool (decide ((((bs % 2 : Nat) : Int) : Int) = 0))) (wt0 rfl) rfl rfl (x_bin rfl rfl rfl b_eql) ?_)
      refine g_nil ?_
      refine g_then ?_
      by_cases hb17 : (((bs % 2 : Nat) : Int) : Int) = 0
      · skip
        refine g_cond_t rfl (decide_eq_true hb17) ?_
        refine g_region ?_
        refine l_of (s_val (v := .slice qq (s + 1) dd) (wt0 rfl) rfl rfl (x_move rfl rfl) ?_)
        refine l_of (s_val (v := .string ((topS b ((upN (tallN l.length) l).getD 0 ⟨#[]⟩) u s))) (wt0 rfl) rfl rfl (x_move rfl rfl) ?_)
        refine l_of (s_val (v := .string ((u.getD (s) ⟨#[]⟩))) (wt0 rfl) rfl rfl (x_move rfl rfl) ?_)
        refine l_of (s_call (wt0 rfl) (x_call' rfl rfl cl60) (pair_r _ _ (by omega) _) ?_)
        rintro _ wq18 ⟨rfl, H19⟩
        replace H19 : S wq18 [Rw 9 1 qq (s + 1) dd (stV (wayTo b ((upN (tallN l.length) l).getD 0 ⟨#[]⟩) u (s + 1))), Old w no] := H15.absorb (new := []) H19
        refine b_ret rfl rfl ?_
        refine l_of (s_buildSlice H19 (wt0 rfl) rfl rfl rfl (vs := [.string ((pairS (topS b ((upN (tallN l.length) l).getD 0 ⟨#[]⟩) u s) (u.getD (s) ⟨#[]⟩)))]) rfl Try.underlying22 sz9 ze9 rfl rfl (cells := #[.string ((pairS (topS b ((upN (tallN l.length) l).getD 0 ⟨#[]⟩) u s) (u.getD (s) ⟨#[]⟩)))]) (by kernel_rfl) ?_)
        intro g20 wq21 H22
        refine l_of (s_appendR (n := (s + 1)) (m := 1) (sc := dd) (xs := (stV (wayTo b ((upN (tallN l.length) l).getD 0 ⟨#[]⟩) u (s + 1)))) (news := [.string ((pairS (topS b ((upN (tallN l.length) l).getD 0 ⟨#[]⟩) u s) (u.getD (s) ⟨#[]⟩)))]) (p := qq) (ad := ⟨g20, 0, none⟩) H22 1 (wt0 rfl) rfl rfl rfl rfl rfl rfl Try.underlying22 inf9 rfl (by decide) (by decide) rfl (by decide) (news_ob H22 (j0 := 0) rfl) rfl (by omega) ?_)
        intro p23 c24 wq25 (H26 : S wq25 [Ob g20 (.cells #[.string ((pairS (topS b ((upN (tallN l.length) l).getD 0 ⟨#[]⟩) u s) (u.getD (s) ⟨#[]⟩)))] 9 (0, 0)), Rw 9 1 p23 ((s + 1) + 1) c24 ((stV (wayTo b ((upN (tallN l.length) l).getD 0 ⟨#[]⟩) u (s + 1))) ++ [.string ((pairS (topS b ((upN (tallN l.length) l).getD 0 ⟨#[]⟩) u s) (u.getD (s) ⟨#[]⟩)))]), Old w no])
        refine l_of (s_val (v := .slice p23 ((s + 1) + 1) c24) (wt0 rfl) rfl rfl (x_assign rfl rfl) ?_)
        refine g_nil ?_
        refine g_then ?_
        refine g_weak [(8, .int .i64 ((bs : Int))), (9, .slice p23 ((s + 1) + 1) c24), (27, .slice q u.length d), (28, .int .i64 ((u.length : Int))), (29, .int .i64 ((s : Int)))] ⟨rfl, rfl, rfl, rfl, rfl, trivial⟩ ?_
        refine g_region ?_
        refine l_of (s_val (v := .int .i64 ((bs : Int))) (wt0 rfl) rfl rfl (x_move rfl rfl) ?_)
        refine l_of (s_val (v := .int .i64 (((bs / 2 : Nat) : Int))) (wt0 rfl) rfl rfl (x_bin rfl rfl rfl (b_quoN (a := bs) (b := 2) (by omega))) ?_)
        refine l_of (s_val (v := .int .i64 (((bs / 2 : Nat) : Int))) (wt0 rfl) rfl rfl (x_assign rfl rfl) ?_)
        refine g_nil ?_
        refine g_in ?_
        refine g_then ?_
        refine g_region ?_
        refine l_of (s_val (v := .int .i64 ((s : Int) + 1)) (wt0 rfl) rfl rfl (x_bin rfl rfl rfl (b_add (w64 (by omega)))) ?_)
        refine l_of (s_val (v := .int .i64 ((s : Int) + 1)) (wt0 rfl) rfl rfl (x_move rfl rfl) ?_)
        refine g_nil ?_
        refine g_then ?_
        refine g_round (i := (s, bs, qq, dd)) (s + 1, bs / 2, p23, c24) ?_ ?_ ?_
        · exact ⟨rfl, rfl, rfl, rfl, rfl, trivial⟩
        · exact ⟨by omega, (by rw [hbs, Nat.div_div_eq_div_mul, Nat.pow_succ]), (by rw [wayTo_next, stV_snoc, show topS b ((upN (tallN l.length) l).getD 0 ⟨#[]⟩) u (s + 1) = pairS (topS b ((upN (tallN l.length) l).getD 0 ⟨#[]⟩) u s) (u.getD s ⟨#[]⟩) from by (conv => lhs; unfold topS); rw [if_pos (by rw [← hbs]; omega)]]; exact (H26.takes [1, 2] (by decide)))⟩
        · (try dsimp only); omega
      · skip
        refine g_cond_f rfl (decide_eq_false hb17) ?_
        refine g_region ?_
        refine l_of (s_val (v := .slice qq (s + 1) dd) (wt0 rfl) rfl rfl (x_move rfl rfl) ?_)
        refine l_of (s_val (v := .string ((u.getD (s) ⟨#[]⟩))) (wt0 rfl) rfl rfl (x_move rfl rfl) ?_)
        refine l_of (s_val (v := .string ((topS b ((upN (tallN l.length) l).getD 0 ⟨#[]⟩) u s))) (wt0 rfl) rfl rfl (x_move rfl rfl) ?_)
        refine l_of (s_call (wt0 rfl) (x_call' rfl rfl cl60) (pair_r _ _ (by omega) _) ?_)
        rintro _ wq27 ⟨rfl, H28⟩
        replace H28 : S wq27 [Rw 9 1 qq (s + 1) dd (stV (wayTo b ((upN (tallN l.length) l).getD 0 ⟨#[]⟩) u (s + 1))), Old w no] := H15.absorb (new := []) H28
        refine b_ret rfl rfl ?_
        refine l_of (s_buildSlice H28 (wt0 rfl) rfl rfl rfl (vs := [.string ((pairS (u.getD (s) ⟨#[]⟩) (topS b ((upN (tallN l.length) l).getD 0 ⟨#[]⟩) u s)))]) rfl Try.underlying22 sz9 ze9 rfl rfl (cells := #[.string ((pairS (u.getD (s) ⟨#[]⟩) (topS b ((upN (tallN l.length) l).getD 0 ⟨#[]⟩) u s)))]) (by kernel_rfl) ?_)
        intro g29 wq30 H31
        refine l_of (s_appendR (n := (s + 1)) (m := 1) (sc := dd) (xs := (stV (wayTo b ((upN (tallN l.length) l).getD 0 ⟨#[]⟩) u (s + 1)))) (news := [.string ((pairS (u.getD (s) ⟨#[]⟩) (topS b ((upN (tallN l.length) l).getD 0 ⟨#[]⟩) u s)))]) (p := qq) (ad := ⟨g29, 0, none⟩) H31 1 (wt0 rfl) rfl rfl rfl rfl rfl rfl Try.underlying22 inf9 rfl (by decide) (by decide) rfl (by decide) (news_ob H31 (j0 := 0) rfl) rfl (by omega) ?_)
        intro p32 c33 wq34 (H35 : S wq34 [Ob g29 (.cells #[.string ((pairS (u.getD (s) ⟨#[]⟩) (topS b ((upN (tallN l.length) l).getD 0 ⟨#[]⟩) u s)))] 9 (0, 0)), Rw 9 1 p32 ((s + 1) + 1) c33 ((stV (wayTo b ((upN (tallN l.length) l).getD 0 ⟨#[]⟩) u (s + 1))) ++ [.string ((pairS (u.getD (s) ⟨#[]⟩) (topS b ((upN (tallN l.length) l).getD 0 ⟨#[]⟩) u s)))]), Old w no])
        refine l_of (s_val (v := .slice p32 ((s + 1) + 1) c33) (wt0 rfl) rfl rfl (x_assign rfl rfl) ?_)
        refine g_nil ?_
        refine g_then ?_
        refine g_weak [(8, .int .i64 ((bs : Int))), (9, .slice p32 ((s + 1) + 1) c33), (27, .slice q u.length d), (28, .int .i64 ((u.length : Int))), (29, .int .i64 ((s : Int)))] ⟨rfl, rfl, rfl, rfl, rfl, trivial⟩ ?_
        refine g_region ?_
        refine l_of (s_val (v := .int .i64 ((bs : Int))) (wt0 rfl) rfl rfl (x_move rfl rfl) ?_)
        refine l_of (s_val (v := .int .i64 (((bs / 2 : Nat) : Int))) (wt0 rfl) rfl rfl (x_bin rfl rfl rfl (b_quoN (a := bs) (b := 2) (by omega))) ?_)
        refine l_of (s_val (v := .int .i64 (((bs / 2 : Nat) : Int))) (wt0 rfl) rfl rfl (x_assign rfl rfl) ?_)
        refine g_nil ?_
        refine g_in ?_
        refine g_then ?_
        refine g_region ?_
        refine l_of (s_val (v := .int .i64 ((s : Int) + 1)) (wt0 rfl) rfl rfl (x_bin rfl rfl rfl (b_add (w64 (by omega)))) ?_)
        refine l_of (s_val (v := .int .i64 ((s : Int) + 1)) (wt0 rfl) rfl rfl (x_move rfl rfl) ?_)
        refine g_nil ?_
        refine g_then ?_
        refine g_round (i := (s, bs, qq, dd)) (s + 1, bs / 2, p32, c33) ?_ ?_ ?_
        · exact ⟨rfl, rfl, rfl, rfl, rfl, trivial⟩
        · exact ⟨by omega, (by rw [hbs, Nat.div_div_eq_div_mul, Nat.pow_succ]), (by rw [wayTo_next, stV_snoc, show topS b ((upN (tallN l.length) l).getD 0 ⟨#[]⟩) u (s + 1) = pairS (u.getD s ⟨#[]⟩) (topS b ((upN (tallN l.length) l).getD 0 ⟨#[]⟩) u s) from by (conv => lhs; unfold topS); rw [if_neg (by rw [← hbs]; omega)]]; exact (H35.takes [1, 2] (by decide)))⟩
        · (try dsimp only); omega
    · skip
      have hsl : s = u.length := by omega
      subst hsl
      refine g_cond_f rfl (decide_eq_false hb16) ?_
      refine g_exit ?_
      refine g_then_exit ?_
      refine g_then_exit ?_
      refine g_in_hit ?_
      refine g_then ?_
      refine g_seq ?_
      refine g_region ?_
      refine l_of (s_val (v := .slice qq (u.length + 1) dd) (wt0 rfl) rfl rfl (x_move rfl rfl) ?_)
      refine l_of (s_val (v := .slice qq (u.length + 1) dd) (wt0 rfl) rfl rfl (x_assign rfl rfl) ?_)
      refine g_nil ?_
      refine g_then ?_
      refine g_ret ?_
      refine fin_ret [.tmp 6] [.slice qq (u.length + 1) dd] rfl ⟨rfl, trivial⟩ ?_
      exact ⟨_, _, rfl, by rw [← hb]; exact H15.takes [0, 1] (by decide)⟩
end Go.Proofs.Ytlajgickimgigaa
