import Derived.Test.YtlajgickimgigaaGreatVH
set_option linter.unusedSimpArgs false
set_option linter.unusedVariables false
namespace Go.Proofs.YtlajgickimgigaaGreat
open Go.RowKit

theorem cl48 : callable Tryz.prog 48 = true := by kernel_rfl
set_option maxRecDepth 20000 in
set_option maxHeartbeats 4000000 in
set_option maxRecDepth 20000 in
set_option maxHeartbeats 4000000 in
theorem add_s (tg mg n h : Nat) (root : ByteArray) (M : PM) (X1 X2 : Item) (v i : Int) (l u : List ByteArray) (p q : Option Addr) (c d : Nat) (hh : h ≤ 12) (hm : l.length ≤ 1099511627776) (hmu : u.length ≤ 1099511627776) (w : World) (HS : S w [Ob tg (.cells #[.int .i64 ((n : Int)), .int .i64 ((h : Int)), .string root, .map (some mg)] 75 (0, 0)), Mp placeV Value.string placeOk mg (M), X1, X2]) (hX : ∀ W, X1.ok W → X2.ok W → Reads W p l.length c 1 (stV l)) (hY : ∀ W, X1.ok W → X2.ok W → Reads W q u.length d 1 (stV u)) : Calls Tryz.prog 15 #[.pointer (some ⟨tg, 0, none⟩), .int .i64 v, .int .i64 i, .slice p l.length c, .slice q u.length d] w fun e w' => e = .returned (.int .i64 (addE h root v i l u)) ∧ S w' ([Ob tg (.cells #[.int .i64 ((n : Int)), .int .i64 ((h : Int)), .string root, .map (some mg)] 75 (0, 0)), Mp placeV Value.string placeOk mg (addM h root v i l u M), X1, X2] ++ [Old w (fps [Ob tg (.cells #[.int .i64 ((n : Int)), .int .i64 ((h : Int)), .string root, .map (some mg)] 75 (0, 0)), Mp placeV Value.string placeOk mg (M), X1, X2])]) := by
  have H00 := HS.beginI
  have H0 : S w ([Ob tg (.cells #[.int .i64 ((n : Int)), .int .i64 ((h : Int)), .string root, .map (some mg)] 75 (0, 0)), Mp placeV Value.string placeOk mg (M), X1, X2, Old w (fps [Ob tg (.cells #[.int .i64 ((n : Int)), .int .i64 ((h : Int)), .string root, .map (some mg)] 75 (0, 0)), Mp placeV Value.string placeOk mg (M), X1, X2])]) := H00
  refine enter_d 44 Tryz.func15 rfl rfl rfl ?_
  refine g_weak [(0, .pointer (some ⟨tg, 0, none⟩)), (1, .int .i64 v), (2, .int .i64 i), (3, .slice p l.length c), (4, .slice q u.length d)] ⟨rfl, rfl, rfl, rfl, rfl, trivial⟩ ?_
  refine g_seq ?_
  refine g_region ?_
  refine l_of (s_alloc H0 (wt0 rfl) rfl rfl rfl ze26 ?_)
  intro g1 wq2 H3
  refine g_nil ?_
  refine g_then ?_
  refine g_seq ?_
  refine g_region ?_
  refine l_of (s_defer (wt0 rfl) rfl (xd_defer rfl rfl rfl) ?_)
  refine g_nil ?_
  refine g_then ?_
  refine g_seq ?_
  refine g_region ?_
  refine l_of (s_val (v := .pointer (some ⟨tg, 0, none⟩)) (wt0 rfl) rfl rfl (x_move rfl rfl) ?_)
  refine l_of (s_val (v := .bool false) (wt0 rfl) rfl rfl (x_bin rfl rfl rfl (b_eqN (r := false) Tryz.underlying29 rfl)) ?_)
  refine l_of (s_val (v := .bool false) (wt0 rfl) rfl rfl (x_move rfl rfl) ?_)
  refine l_of (s_val (v := .slice p l.length c) (wt1 rfl rfl rfl rfl rfl) rfl rfl (x_move rfl rfl) ?_)
  refine l_of (s_call (wt1 rfl rfl rfl rfl rfl) (x_call' rfl rfl cl46) (digests_s l p l.length c rfl hm _ (hX _ (H3.at (k := 3) rfl) (H3.at (k := 4) rfl))) ?_)
  rintro _ wq4 ⟨rfl, H5⟩
  replace H5 : S wq4 [Ob g1 (.cells #[.int .i64 0] 26 (0, 0)), Ob tg (.cells #[.int .i64 ((n : Int)), .int .i64 ((h : Int)), .string root, .map (some mg)] 75 (0, 0)), Mp placeV Value.string placeOk mg (M), X1, X2, Old w (fps [Ob tg (.cells #[.int .i64 ((n : Int)), .int .i64 ((h : Int)), .string root, .map (some mg)] 75 (0, 0)), Mp placeV Value.string placeOk mg (M), X1, X2])] := H3.absorb (new := []) H5
  refine b_ret rfl rfl ?_
  refine l_of (s_val (v := .bool (!((digsB l)))) (wt1 rfl rfl rfl rfl rfl) rfl rfl (x_not (b := (digsB l)) rfl rfl) ?_)
  refine l_of (s_val (v := .bool (!((digsB l)))) (wt0 rfl) rfl rfl (x_pick_f rfl rfl rfl rfl) ?_)
  refine l_of (s_val (v := .bool (!((digsB l)))) (wt0 rfl) rfl rfl (x_move rfl rfl) ?_)
  rcases Bool.eq_false_or_eq_true ((digsB l)) with hb6 | hb6
  · skip
    refine l_of (s_val (v := .slice q u.length d) (wt1 rfl rfl rfl rfl (neg_of hb6)) rfl rfl (x_move rfl rfl) ?_)
    refine l_of (s_call (wt1 rfl rfl rfl rfl (neg_of hb6)) (x_call' rfl rfl cl46) (digests_s u q u.length d rfl hmu _ (hY _ (H5.at (k := 3) rfl) (H5.at (k := 4) rfl))) ?_)
    rintro _ wq7 ⟨rfl, H8⟩
    replace H8 : S wq7 [Ob g1 (.cells #[.int .i64 0] 26 (0, 0)), Ob tg (.cells #[.int .i64 ((n : Int)), .int .i64 ((h : Int)), .string root, .map (some mg)] 75 (0, 0)), Mp placeV Value.string placeOk mg (M), X1, X2, Old w (fps [Ob tg (.cells #[.int .i64 ((n : Int)), .int .i64 ((h : Int)), .string root, .map (some mg)] 75 (0, 0)), Mp placeV Value.string placeOk mg (M), X1, X2])] := H5.absorb (new := []) H8
    refine b_ret rfl rfl ?_
    refine l_of (s_val (v := .bool (!((digsB u)))) (wt1 rfl rfl rfl rfl (neg_of hb6)) rfl rfl (x_not (b := (digsB u)) rfl rfl) ?_)
    refine l_of (s_val (v := .bool (!((digsB u)))) (wt0 rfl) rfl rfl (x_pick_f rfl rfl (neg_of hb6) rfl) ?_)
    rcases Bool.eq_false_or_eq_true ((digsB u)) with hb9 | hb9
    · skip
      refine l_of (s_call (wt0 rfl) (x_call' rfl rfl cl36) (fail_r _ _ (neg_of hb9) _) ?_)
      rintro _ wq10 ⟨rfl, H11⟩
      replace H11 : S wq10 [Ob g1 (.cells #[.int .i64 0] 26 (0, 0)), Ob tg (.cells #[.int .i64 ((n : Int)), .int .i64 ((h : Int)), .string root, .map (some mg)] 75 (0, 0)), Mp placeV Value.string placeOk mg (M), X1, X2, Old w (fps [Ob tg (.cells #[.int .i64 ((n : Int)), .int .i64 ((h : Int)), .string root, .map (some mg)] 75 (0, 0)), Mp placeV Value.string placeOk mg (M), X1, X2])] := H8.absorb (new := []) H11
      refine b_ret rfl rfl ?_
      refine g_nil ?_
      refine g_then ?_
      refine g_weak [(0, .pointer (some ⟨tg, 0, none⟩)), (1, .int .i64 v), (2, .int .i64 i), (3, .slice p l.length c), (4, .slice q u.length d), (10, .pointer (some ⟨g1, 0, none⟩))] ⟨rfl, rfl, rfl, rfl, rfl, rfl, trivial⟩ ?_
      refine g_seq ?_
      refine g_any [(0, .pointer (some ⟨tg, 0, none⟩)), (1, .int .i64 v), (2, .int .i64 i), (3, .slice p l.length c), (4, .slice q u.length d), (10, .pointer (some ⟨g1, 0, none⟩))] (fun wx => S wx [Ob tg (.cells #[.int .i64 ((n : Int)), .int .i64 ((h : Int)), .string root, .map (some mg)] 75 (0, 0))]) [] (by kernel_rfl) H11 (fun wq12 H13 => ?_)
      refine a_take (v := .pointer (some ⟨tg, 0, none⟩)) 0 rfl (wt0 rfl) rfl rfl rfl (by kernel_rfl) (by kernel_rfl) (by kernel_rfl) (by kernel_rfl) (H13.mask [false, true, false, false, false, false]) (fun wx H => x_move rfl rfl) ?_
      refine a_take (v := .pointer (some ⟨tg, 0, none⟩)) 1 rfl (wt0 rfl) rfl rfl rfl (by kernel_rfl) (by kernel_rfl) (by kernel_rfl) (by kernel_rfl) (H13.mask [false, true, false, false, false, false]) (fun wx H => x_nilCheck rfl rfl) ?_
      refine a_take (v := .pointer (some ⟨tg, 0, none⟩)) 2 rfl (wt0 rfl) rfl rfl rfl (by kernel_rfl) (by kernel_rfl) (by kernel_rfl) (by kernel_rfl) (H13.mask [false, true, false, false, false, false]) (fun wx H => x_fieldAddr rfl rfl fo75_0 rfl) ?_
      refine a_take (v := .agg #[.int .i64 ((n : Int)), .int .i64 ((h : Int))]) 3 rfl (wt0 rfl) rfl rfl rfl (by kernel_rfl) (by kernel_rfl) (by kernel_rfl) (by kernel_rfl) (H13.mask [false, true, false, false, false, false]) (fun wx H => x_loadA H 0 rfl rfl Tryz.underlying65 rfl sz65 rfl rfl rfl) ?_
      refine a_take (v := .pointer (some ⟨tg, 0, none⟩)) 4 rfl (wt0 rfl) rfl rfl rfl (by kernel_rfl) (by kernel_rfl) (by kernel_rfl) (by kernel_rfl) (H13.mask [false, true, false, false, false, false]) (fun wx H => x_move rfl rfl) ?_
      refine a_take (v := .pointer (some ⟨tg, 0, none⟩)) 5 rfl (wt0 rfl) rfl rfl rfl (by kernel_rfl) (by kernel_rfl) (by kernel_rfl) (by kernel_rfl) (H13.mask [false, true, false, false, false, false]) (fun wx H => x_nilCheck rfl rfl) ?_
      refine a_take (v := .pointer (some ⟨tg, 2, none⟩)) 6 rfl (wt0 rfl) rfl rfl rfl (by kernel_rfl) (by kernel_rfl) (by kernel_rfl) (by kernel_rfl) (H13.mask [false, true, false, false, false, false]) (fun wx H => x_fieldAddr rfl rfl fo75_1 rfl) ?_
      refine a_take (v := .string root) 7 rfl (wt0 rfl) rfl rfl rfl (by kernel_rfl) (by kernel_rfl) (by kernel_rfl) (by kernel_rfl) (H13.mask [false, true, false, false, false, false]) (fun wx H => x_load1 H 0 rfl rfl Tryz.underlying9 rfl rfl rfl) ?_
      refine a_take (v := .int .i64 v) 8 rfl (wt0 rfl) rfl rfl rfl (by kernel_rfl) (by kernel_rfl) (by kernel_rfl) (by kernel_rfl) (H13.mask [false, true, false, false, false, false]) (fun wx H => x_move rfl rfl) ?_
      refine a_take (v := .int .i64 i) 9 rfl (wt0 rfl) rfl rfl rfl (by kernel_rfl) (by kernel_rfl) (by kernel_rfl) (by kernel_rfl) (H13.mask [false, true, false, false, false, false]) (fun wx H => x_move rfl rfl) ?_
      refine a_take (v := .slice p l.length c) 10 rfl (wt0 rfl) rfl rfl rfl (by kernel_rfl) (by kernel_rfl) (by kernel_rfl) (by kernel_rfl) (H13.mask [false, true, false, false, false, false]) (fun wx H => x_move rfl rfl) ?_
      refine a_take (v := .slice q u.length d) 11 rfl (wt0 rfl) rfl rfl rfl (by kernel_rfl) (by kernel_rfl) (by kernel_rfl) (by kernel_rfl) (H13.mask [false, true, false, false, false, false]) (fun wx H => x_move rfl rfl) ?_
      refine a_one (i := 12) (by kernel_rfl) rfl ?_
      refine s_call (wt0 rfl) (x_call' rfl rfl cl47) (proved_s _ h root v i l u p q c d hh hb6 hb9 hm hmu _ (hX _ (H13.at (k := 3) rfl) (H13.at (k := 4) rfl)) (hY _ (H13.at (k := 3) rfl) (H13.at (k := 4) rfl))) ?_
      rintro _ wq14 (⟨hp17, g16, rfl, H15⟩ | ⟨hp17, rfl, H15⟩)
      · skip
        replace H15 : S wq14 [Mp placeV Value.string placeOk g16 (provM v.toNat i.toNat l u), Ob g1 (.cells #[.int .i64 0] 26 (0, 0)), Ob tg (.cells #[.int .i64 ((n : Int)), .int .i64 ((h : Int)), .string root, .map (some mg)] 75 (0, 0)), Mp placeV Value.string placeOk mg (M), X1, X2, Old w (fps [Ob tg (.cells #[.int .i64 ((n : Int)), .int .i64 ((h : Int)), .string root, .map (some mg)] 75 (0, 0)), Mp placeV Value.string placeOk mg (M), X1, X2])] := H13.absorb (new := [Mp placeV Value.string placeOk g16 (provM v.toNat i.toNat l u)]) H15
        refine b_ret rfl rfl ?_
        refine a_k (H15.mask [false, false, true, false, false, false, false]) ?_
        refine a_take (v := .map (some g16)) 13 rfl (wt0 rfl) rfl rfl rfl (by kernel_rfl) (by kernel_rfl) (by kernel_rfl) (by kernel_rfl) (H15.mask [false, false, true, false, false, false, false]) (fun wx H => x_assign rfl rfl) ?_
        refine a_done (by kernel_rfl) ?_
        refine g_then ?_
        refine g_weak [(0, .pointer (some ⟨tg, 0, none⟩)), (10, .pointer (some ⟨g1, 0, none⟩)), (11, .map (some g16))] ⟨rfl, rfl, rfl, trivial⟩ ?_
        refine g_seq ?_
        refine g_region ?_
        refine l_of (s_val (v := .pointer (some ⟨tg, 0, none⟩)) (wt0 rfl) rfl rfl (x_move rfl rfl) ?_)
        refine l_of (s_val (v := .pointer (some ⟨tg, 0, none⟩)) (wt0 rfl) rfl rfl (x_nilCheck rfl rfl) ?_)
        refine l_of (s_val (v := .pointer (some ⟨tg, 3, none⟩)) (wt0 rfl) rfl rfl (x_fieldAddr rfl rfl fo75_2 rfl) ?_)
        refine l_of (s_val (v := .map (some mg)) (wt0 rfl) rfl rfl (x_load1 H15 2 rfl rfl Tryz.underlying68 rfl rfl rfl) ?_)
        refine l_of (s_val (v := .map (some g16)) (wt0 rfl) rfl rfl (x_move rfl rfl) ?_)
        refine l_of (s_call (wt0 rfl) (x_call' rfl rfl cl48) (copy_m mg g16 M (provM v.toNat i.toNat l u) _ (H15.takes [3, 0] (by decide))) ?_)
        rintro _ wq18 ⟨rfl, H19⟩
        replace H19 : S wq18 [Mp placeV Value.string placeOk mg (orM (provM v.toNat i.toNat l u) M), Mp placeV Value.string placeOk g16 (provM v.toNat i.toNat l u), Ob g1 (.cells #[.int .i64 0] 26 (0, 0)), Ob tg (.cells #[.int .i64 ((n : Int)), .int .i64 ((h : Int)), .string root, .map (some mg)] 75 (0, 0)), X1, X2, Old w (fps [Ob tg (.cells #[.int .i64 ((n : Int)), .int .i64 ((h : Int)), .string root, .map (some mg)] 75 (0, 0)), Mp placeV Value.string placeOk mg (M), X1, X2])] := H15.absorbI (new := [Mp placeV Value.string placeOk mg (orM (provM v.toNat i.toNat l u) M), Mp placeV Value.string placeOk g16 (provM v.toNat i.toNat l u)]) [3, 0] H19
        refine b_ret rfl rfl ?_
        refine g_nil ?_
        refine g_then ?_
        refine g_seq ?_
        refine g_region ?_
        refine l_of (s_store H19 2 (wt0 rfl) rfl rfl rfl rfl rfl sz26 rfl rfl (cs' := #[.int .i64 0]) rfl ?_)
        intro wq20 H21
        refine g_nil ?_
        refine g_then ?_
        refine g_ret ?_
        refine fin_dret ?_
        refine gl_step (by simp) cl30 (caught_n g1 _) ?_
        rintro _ _ wq22 ⟨⟨rfl, H23⟩, rfl⟩
        replace H23 : S wq22 [Mp placeV Value.string placeOk mg (orM (provM v.toNat i.toNat l u) M), Mp placeV Value.string placeOk g16 (provM v.toNat i.toNat l u), Ob g1 (.cells #[.int .i64 0] 26 (0, 0)), Ob tg (.cells #[.int .i64 ((n : Int)), .int .i64 ((h : Int)), .string root, .map (some mg)] 75 (0, 0)), X1, X2, Old w (fps [Ob tg (.cells #[.int .i64 ((n : Int)), .int .i64 ((h : Int)), .string root, .map (some mg)] 75 (0, 0)), Mp placeV Value.string placeOk mg (M), X1, X2])] := H21.absorb (new := []) H23
        refine (?_ : GL _ _ _ _ _ _ FrameMode.returning _)
        refine gl_ret [.cell 10 26] [.int .i64 0] rfl ⟨⟨_, rfl, run_load1 Tryz.underlying26 rfl (H23.cell (k := 2) rfl rfl)⟩, trivial⟩ ?_
        have hae : addE h root v i l u = provE h root v i l u := by unfold addE; rw [if_pos ⟨hb6, hb9⟩]
        have ha0 : addE h root v i l u = 0 := hae.trans hp17
        have hM : addM h root v i l u M = orM (provM v.toNat i.toNat l u) M := by unfold addM; rw [if_pos ha0]
        exact ⟨by rw [ha0]; rfl, by rw [hM]; exact H23.takes [3, 0, 4, 5, 6] (by decide)⟩
      · skip
        replace H15 : S wq14 [Ob g1 (.cells #[.int .i64 0] 26 (0, 0)), Ob tg (.cells #[.int .i64 ((n : Int)), .int .i64 ((h : Int)), .string root, .map (some mg)] 75 (0, 0)), Mp placeV Value.string placeOk mg (M), X1, X2, Old w (fps [Ob tg (.cells #[.int .i64 ((n : Int)), .int .i64 ((h : Int)), .string root, .map (some mg)] 75 (0, 0)), Mp placeV Value.string placeOk mg (M), X1, X2])] := H13.absorb (new := []) H15
        refine b_panic ?_
        refine pan_in ⟨rfl, rfl, rfl, rfl, rfl, rfl, trivial⟩ ?_
        refine g_then_panic ?_
        refine fin_dpanic ?_
        refine gl_step (by simp) cl30 (caught_p g1 (provE h root v i l u) (0) [] _ (H15.ob (k := 0) rfl)) ?_
        rintro _ _ wq24 ⟨⟨rfl, H25⟩, rfl⟩
        replace H25 : S wq24 [Ob g1 (.cells #[.int .i64 (provE h root v i l u)] 26 (0, 0)), Ob tg (.cells #[.int .i64 ((n : Int)), .int .i64 ((h : Int)), .string root, .map (some mg)] 75 (0, 0)), Mp placeV Value.string placeOk mg (M), X1, X2, Old w (fps [Ob tg (.cells #[.int .i64 ((n : Int)), .int .i64 ((h : Int)), .string root, .map (some mg)] 75 (0, 0)), Mp placeV Value.string placeOk mg (M), X1, X2])] := H15.absorbK (new := [Ob g1 (.cells #[.int .i64 (provE h root v i l u)] 26 (0, 0))]) [0] (by intro g hg; subst hg; exact ⟨0, rfl, _, rfl, rfl⟩) H25
        refine (?_ : GL _ _ _ _ _ _ FrameMode.returning _)
        refine gl_ret [.cell 10 26] [.int .i64 (provE h root v i l u)] rfl ⟨⟨_, rfl, run_load1 Tryz.underlying26 rfl (H25.cell (k := 0) rfl rfl)⟩, trivial⟩ ?_
        have hae : addE h root v i l u = provE h root v i l u := by unfold addE; rw [if_pos ⟨hb6, hb9⟩]
        have hM : addM h root v i l u M = M := by unfold addM; rw [if_neg (by rw [hae]; exact hp17)]
        exact ⟨by rw [hae]; rfl, by rw [hM]; exact H25.takes [1, 2, 3, 4, 5] (by decide)⟩
    · skip
      refine l_of (s_call (wt0 rfl) (x_call' rfl rfl cl36) (fail_p _ _ (neg_of hb9) _) ?_)
      rintro _ wq26 ⟨rfl, H27⟩
      replace H27 : S wq26 [Ob g1 (.cells #[.int .i64 0] 26 (0, 0)), Ob tg (.cells #[.int .i64 ((n : Int)), .int .i64 ((h : Int)), .string root, .map (some mg)] 75 (0, 0)), Mp placeV Value.string placeOk mg (M), X1, X2, Old w (fps [Ob tg (.cells #[.int .i64 ((n : Int)), .int .i64 ((h : Int)), .string root, .map (some mg)] 75 (0, 0)), Mp placeV Value.string placeOk mg (M), X1, X2])] := H8.absorb (new := []) H27
      refine b_panic ?_
      refine g_then_panic ?_
      refine fin_dpanic ?_
      refine gl_step (by simp) cl30 (caught_p g1 (1) (0) [] _ (H27.ob (k := 0) rfl)) ?_
      rintro _ _ wq28 ⟨⟨rfl, H29⟩, rfl⟩
      replace H29 : S wq28 [Ob g1 (.cells #[.int .i64 1] 26 (0, 0)), Ob tg (.cells #[.int .i64 ((n : Int)), .int .i64 ((h : Int)), .string root, .map (some mg)] 75 (0, 0)), Mp placeV Value.string placeOk mg (M), X1, X2, Old w (fps [Ob tg (.cells #[.int .i64 ((n : Int)), .int .i64 ((h : Int)), .string root, .map (some mg)] 75 (0, 0)), Mp placeV Value.string placeOk mg (M), X1, X2])] := H27.absorbK (new := [Ob g1 (.cells #[.int .i64 1] 26 (0, 0))]) [0] (by intro g hg; subst hg; exact ⟨0, rfl, _, rfl, rfl⟩) H29
      refine (?_ : GL _ _ _ _ _ _ FrameMode.returning _)
      refine gl_ret [.cell 10 26] [.int .i64 1] rfl ⟨⟨_, rfl, run_load1 Tryz.underlying26 rfl (H29.cell (k := 0) rfl rfl)⟩, trivial⟩ ?_
      have hae : addE h root v i l u = 1 := by unfold addE; rw [if_neg (fun hq => by rw [hb9] at hq; exact Bool.false_ne_true hq.2)]
      have hM : addM h root v i l u M = M := by unfold addM; rw [if_neg (by rw [hae]; decide)]
      exact ⟨by rw [hae]; rfl, by rw [hM]; exact H29.takes [1, 2, 3, 4, 5] (by decide)⟩
  · skip
    refine l_of (s_not (wn1 rfl rfl rfl rfl (neg_of hb6)) rfl rfl ?_)
    refine l_of (s_not (wn1 rfl rfl rfl rfl (neg_of hb6)) rfl rfl ?_)
    refine l_of (s_not (wn1 rfl rfl rfl rfl (neg_of hb6)) rfl rfl ?_)
    refine l_of (s_val (v := .bool true) (wt0 rfl) rfl rfl (x_pick_t rfl rfl (neg_of hb6) rfl) ?_)
    refine l_of (s_call (wt0 rfl) (x_call' rfl rfl cl36) (fail_p _ _ rfl _) ?_)
    rintro _ wq30 ⟨rfl, H31⟩
    replace H31 : S wq30 [Ob g1 (.cells #[.int .i64 0] 26 (0, 0)), Ob tg (.cells #[.int .i64 ((n : Int)), .int .i64 ((h : Int)), .string root, .map (some mg)] 75 (0, 0)), Mp placeV Value.string placeOk mg (M), X1, X2, Old w (fps [Ob tg (.cells #[.int .i64 ((n : Int)), .int .i64 ((h : Int)), .string root, .map (some mg)] 75 (0, 0)), Mp placeV Value.string placeOk mg (M), X1, X2])] := H5.absorb (new := []) H31
    refine b_panic ?_
    refine g_then_panic ?_
    refine fin_dpanic ?_
    refine gl_step (by simp) cl30 (caught_p g1 (1) (0) [] _ (H31.ob (k := 0) rfl)) ?_
    rintro _ _ wq32 ⟨⟨rfl, H33⟩, rfl⟩
    replace H33 : S wq32 [Ob g1 (.cells #[.int .i64 1] 26 (0, 0)), Ob tg (.cells #[.int .i64 ((n : Int)), .int .i64 ((h : Int)), .string root, .map (some mg)] 75 (0, 0)), Mp placeV Value.string placeOk mg (M), X1, X2, Old w (fps [Ob tg (.cells #[.int .i64 ((n : Int)), .int .i64 ((h : Int)), .string root, .map (some mg)] 75 (0, 0)), Mp placeV Value.string placeOk mg (M), X1, X2])] := H31.absorbK (new := [Ob g1 (.cells #[.int .i64 1] 26 (0, 0))]) [0] (by intro g hg; subst hg; exact ⟨0, rfl, _, rfl, rfl⟩) H33
    refine (?_ : GL _ _ _ _ _ _ FrameMode.returning _)
    refine gl_ret [.cell 10 26] [.int .i64 1] rfl ⟨⟨_, rfl, run_load1 Tryz.underlying26 rfl (H33.cell (k := 0) rfl rfl)⟩, trivial⟩ ?_
    have hae : addE h root v i l u = 1 := by unfold addE; rw [if_neg (fun hq => by rw [hb6] at hq; exact Bool.false_ne_true hq.1)]
    have hM : addM h root v i l u M = M := by unfold addM; rw [if_neg (by rw [hae]; decide)]
    exact ⟨by rw [hae]; rfl, by rw [hM]; exact H33.takes [1, 2, 3, 4, 5] (by decide)⟩
end Go.Proofs.YtlajgickimgigaaGreat
