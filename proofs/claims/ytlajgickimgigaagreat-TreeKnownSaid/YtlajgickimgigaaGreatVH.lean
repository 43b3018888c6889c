import Derived.Test.YtlajgickimgigaaGreatVG
set_option linter.unusedSimpArgs false
set_option linter.unusedVariables false
namespace Go.Proofs.YtlajgickimgigaaGreat
open Go.RowKit

theorem cl22 : callable Tryz.prog 22 = true := by kernel_rfl
theorem inf3 : infO Tryz.prog 3 = some (some (.int .i64 0), 1, 8) := by kernel_rfl
theorem ze3 : zeO Tryz.prog 3 = some (.int .i64 0) := by kernel_rfl
/-- What New knows. -/
def newT (h : Nat) (root : ByteArray) : PM := upM (fun _ => none) (h, 0) root
/-- What Add meets. -/
def addE (h : Nat) (root : ByteArray) (v i : Int) (l u : List ByteArray) : Int := if digsB l = true ∧ digsB u = true then provE h root v i l u else 1
/-- What is known behind Add. -/
def addM (h : Nat) (root : ByteArray) (v i : Int) (l u : List ByteArray) (M : PM) : PM := if addE h root v i l u = 0 then orM (provM v.toNat i.toNat l u) M else M
/-- What Get finds. -/
def getG (n h : Nat) (M : PM) (v i : Int) : ByteArray × Int := if nodeOk h v i = true then (if (getT n M v.toNat i.toNat).isSome = true then ((getT n M v.toNat i.toNat).getD ⟨#[]⟩, 0) else (⟨#[]⟩, 8)) else (⟨#[]⟩, 7)
/-- Those that are missing. -/
def missTo (M : PM) (v k : Nat) : List Nat := (List.range k).filter (fun i => !(M (v, i)).isSome)
def missT (n h : Nat) (M : PM) (v : Int) : List Nat × Int := if 0 ≤ v ∧ v ≤ (h : Int) then (missTo M v.toNat (countN n v.toNat), 0) else ([], 7)
def knownT (n h : Nat) (M : PM) (v : Int) : Int × Int := if 0 ≤ v ∧ v ≤ (h : Int) then ((countN n v.toNat : Int) - ((missTo M v.toNat (countN n v.toNat)).length : Int), 0) else (0, 7)
def intV (l : List Nat) : List Value := l.map fun (x : Nat) => Value.int .i64 (x : Int)
theorem intV_snoc (l : List Nat) (x : Nat) : intV (l ++ [x]) = intV l ++ [.int .i64 (x : Int)] := by unfold intV; simp
theorem miss_next (M : PM) (v k : Nat) : missTo M v (k + 1) = if (M (v, k)).isSome = true then missTo M v k else missTo M v k ++ [k] := by
  unfold missTo
  rw [List.range_succ, List.filter_append]
  cases h : M (v, k) <;> simp [h]
theorem miss_len (M : PM) (v k : Nat) : (missTo M v k).length ≤ k := by
  unfold missTo
  exact Nat.le_trans (List.length_filter_le _ _) (by simp)
set_option maxRecDepth 20000 in
set_option maxHeartbeats 4000000 in
set_option maxRecDepth 20000 in
set_option maxHeartbeats 4000000 in
theorem new_s (root : ByteArray) (n : Int) (hs : root.size = 32) (h1 : 1 ≤ n) (hn : n ≤ 4096) (w : World) : Calls Tryz.prog 9 #[.string root, .int .i64 n] w fun e w' => ∃ tg mg, e = .returned (.tuple #[.pointer (some ⟨tg, 0, none⟩), .int .i64 0]) ∧ S w' ([Ob tg (.cells #[.int .i64 n, .int .i64 (((tallN n.toNat) : Int)), .string root, .map (some mg)] 75 (0, 0)), Mp placeV Value.string placeOk mg (newT (tallN n.toNat) root)] ++ [Old w no]) := by
  have H0 := S.old w
  have ht12 := tall_le12 (n := n.toNat) (by omega)
  refine enter_d 23 Tryz.func9 rfl rfl rfl ?_
  refine g_weak [(0, .string root), (1, .int .i64 n)] ⟨rfl, rfl, trivial⟩ ?_
  refine g_seq ?_
  refine g_region ?_
  refine l_of (s_val (v := .pointer none) (wt0 rfl) rfl rfl (x_assign rfl rfl) ?_)
  refine l_of (s_alloc H0 (wt0 rfl) rfl rfl rfl ze26 ?_)
  intro g1 wq2 H3
  refine g_nil ?_
  refine g_then ?_
  refine g_seq ?_
  refine g_region ?_
  refine l_of (s_defer (wt0 rfl) rfl (xd_defer rfl rfl rfl) ?_)
  refine g_nil ?_
  refine g_then ?_
  refine g_seq ?_
  refine g_region ?_
  refine l_of (s_val (v := .string root) (wt0 rfl) rfl rfl (x_move rfl rfl) ?_)
  refine l_of (s_val (v := .int .i64 ((root.size : Int))) (wt0 rfl) rfl rfl (x_lens rfl rfl Tryz.underlying9) ?_)
  refine l_of (s_val (v := .bool (!decide (((root.size : Int) : Int) = 32))) (wt0 rfl) rfl rfl (x_bin rfl rfl rfl b_neq) ?_)
  by_cases hb4 : ((root.size : Int) : Int) = 32
  · skip
    refine l_of (s_call (wt0 rfl) (x_call' rfl rfl cl36) (fail_r _ _ (nf hb4) _) ?_)
    rintro _ wq5 ⟨rfl, H6⟩
    replace H6 : S wq5 [Ob g1 (.cells #[.int .i64 0] 26 (0, 0)), Old w no] := H3.absorb (new := []) H6
    refine b_ret rfl rfl ?_
    refine g_nil ?_
    refine g_then ?_
    refine g_seq ?_
    refine g_region ?_
    refine l_of (s_val (v := .int .i64 n) (wt0 rfl) rfl rfl (x_move rfl rfl) ?_)
    by_cases hb7 : (n : Int) < 1
    · skip
      refine l_of (s_call (wt0 rfl) (x_call' rfl rfl cl37) (formed_p1 _ (of_decide_eq_true (decide_eq_true hb7)) _) ?_)
      rintro _ wq8 ⟨rfl, H9⟩
      replace H9 : S wq8 [Ob g1 (.cells #[.int .i64 0] 26 (0, 0)), Old w no] := H6.absorb (new := []) H9
      refine b_panic ?_
      refine g_then_panic ?_
      refine fin_dpanic ?_
      refine gl_step (by simp) cl30 (caught_p g1 (7) (0) [] _ (H9.ob (k := 0) rfl)) ?_
      rintro _ _ wq10 ⟨⟨rfl, H11⟩, rfl⟩
      replace H11 : S wq10 [Ob g1 (.cells #[.int .i64 7] 26 (0, 0)), Old w no] := H9.absorbK (new := [Ob g1 (.cells #[.int .i64 7] 26 (0, 0))]) [0] (by intro g hg; subst hg; exact ⟨0, rfl, _, rfl, rfl⟩) H11
      refine (?_ : GL _ _ _ _ _ _ FrameMode.returning _)
      refine gl_ret [.tmp 4, .cell 5 26] [.pointer none, .int .i64 7] rfl ⟨rfl, ⟨_, rfl, run_load1 Tryz.underlying26 rfl (H11.cell (k := 0) rfl rfl)⟩, trivial⟩ ?_
      omega
    · skip
      by_cases hb12 : (4096 : Int) < n
      · skip
        refine l_of (s_call (wt0 rfl) (x_call' rfl rfl cl37) (formed_p2 _ (of_decide_eq_true (decide_eq_true hb12)) _) ?_)
        rintro _ wq13 ⟨rfl, H14⟩
        replace H14 : S wq13 [Ob g1 (.cells #[.int .i64 0] 26 (0, 0)), Old w no] := H6.absorb (new := []) H14
        refine b_panic ?_
        refine g_then_panic ?_
        refine fin_dpanic ?_
        refine gl_step (by simp) cl30 (caught_p g1 (7) (0) [] _ (H14.ob (k := 0) rfl)) ?_
        rintro _ _ wq15 ⟨⟨rfl, H16⟩, rfl⟩
        replace H16 : S wq15 [Ob g1 (.cells #[.int .i64 7] 26 (0, 0)), Old w no] := H14.absorbK (new := [Ob g1 (.cells #[.int .i64 7] 26 (0, 0))]) [0] (by intro g hg; subst hg; exact ⟨0, rfl, _, rfl, rfl⟩) H16
        refine (?_ : GL _ _ _ _ _ _ FrameMode.returning _)
        refine gl_ret [.tmp 4, .cell 5 26] [.pointer none, .int .i64 7] rfl ⟨rfl, ⟨_, rfl, run_load1 Tryz.underlying26 rfl (H16.cell (k := 0) rfl rfl)⟩, trivial⟩ ?_
        omega
      · skip
        refine l_of (s_call (wt0 rfl) (x_call' rfl rfl cl37) (formed_i _ (by omega) (by omega) _) ?_)
        rintro _ wq17 ⟨rfl, H18⟩
        replace H18 : S wq17 [Ob g1 (.cells #[.int .i64 0] 26 (0, 0)), Old w no] := H6.absorb (new := []) H18
        refine b_ret rfl rfl ?_
        refine l_of (s_alloc H18 (wt0 rfl) rfl rfl rfl ze65 ?_)
        intro g19 wq20 H21
        refine l_of (s_store H21 0 (wt0 rfl) rfl rfl rfl rfl rfl sz65 rfl rfl (cs' := #[.int .i64 n, .int .i64 (((tallN n.toNat : Nat) : Int))]) rfl ?_)
        intro wq22 H23
        refine g_nil ?_
        refine g_then ?_
        refine g_seq ?_
        refine g_any [(0, .string root), (1, .int .i64 n), (5, .pointer (some ⟨g1, 0, none⟩)), (6, .pointer (some ⟨g19, 0, none⟩)), (7, .string root), (8, .int .i64 ((root.size : Int))), (9, .bool (!decide (((root.size : Int) : Int) = 32))), (10, .tuple #[]), (11, .int .i64 n), (12, .agg #[.int .i64 n, .int .i64 (((tallN n.toNat : Nat) : Int))])] (fun wx => S wx [Ob g19 (.cells #[.int .i64 n, .int .i64 (((tallN n.toNat : Nat) : Int))] 65 (0, 0))]) [] (by kernel_rfl) H23 (fun wq24 H25 => ?_)
        refine a_take (v := .agg #[.int .i64 n, .int .i64 (((tallN n.toNat : Nat) : Int))]) 0 rfl (wt0 rfl) rfl rfl rfl (by kernel_rfl) (by kernel_rfl) (by kernel_rfl) (by kernel_rfl) (H25.mask [true, false, false]) (fun wx H => x_loadA H 0 rfl rfl Tryz.underlying65 rfl sz65 rfl rfl rfl) ?_
        refine a_take (v := .string root) 1 rfl (wt0 rfl) rfl rfl rfl (by kernel_rfl) (by kernel_rfl) (by kernel_rfl) (by kernel_rfl) (H25.mask [true, false, false]) (fun wx H => x_move rfl rfl) ?_
        refine a_take (v := .pointer (some ⟨g19, 1, none⟩)) 3 rfl (wt0 rfl) rfl rfl rfl (by kernel_rfl) (by kernel_rfl) (by kernel_rfl) (by kernel_rfl) (H25.mask [true, false, false]) (fun wx H => x_fieldAddr rfl rfl fo65_1 rfl) ?_
        refine a_take (v := .int .i64 (((tallN n.toNat : Nat) : Int))) 4 rfl (wt0 rfl) rfl rfl rfl (by kernel_rfl) (by kernel_rfl) (by kernel_rfl) (by kernel_rfl) (H25.mask [true, false, false]) (fun wx H => x_load1 H 0 rfl rfl Tryz.underlying3 rfl rfl rfl) ?_
        refine a_take (v := .agg #[.int .i64 (((tallN n.toNat : Nat) : Int)), .int .i64 0]) 5 rfl (wt0 rfl) rfl rfl rfl (by kernel_rfl) (by kernel_rfl) (by kernel_rfl) (by kernel_rfl) (H25.mask [true, false, false]) (fun wx H => x_build (vs := [.int .i64 (((tallN n.toNat : Nat) : Int)), .int .i64 0]) rfl rfl (cells := #[.int .i64 (((tallN n.toNat : Nat) : Int)), .int .i64 0]) (by kernel_rfl)) ?_
        refine a_take (v := .string root) 6 rfl (wt0 rfl) rfl rfl rfl (by kernel_rfl) (by kernel_rfl) (by kernel_rfl) (by kernel_rfl) (H25.mask [true, false, false]) (fun wx H => x_move rfl rfl) ?_
        refine a_one (i := 2) (by kernel_rfl) rfl ?_
        refine s_makeMap (α := ByteArray) placeV Value.string placeOk H25 (wt0 rfl) rfl rfl rfl ?_
        intro mg26 wq27 H28
        replace H28 : S wq27 [Mp placeV Value.string placeOk mg26 (fun _ => none), Ob g19 (.cells #[.int .i64 n, .int .i64 (((tallN n.toNat : Nat) : Int))] 65 (0, 0)), Ob g1 (.cells #[.int .i64 0] 26 (0, 0)), Old w no] := H28
        refine a_k (H28.mask [false, true, false, false]) ?_
        refine a_one (i := 7) (by kernel_rfl) rfl ?_
        refine s_insert (x := ((tallN n.toNat), 0)) (a := root) placeT H28 0 (wt0 rfl) rfl rfl rfl rfl rfl rfl ⟨by (show _ ≤ 1099511627776); omega, by (show _ ≤ 1099511627776); omega⟩ ?_
        intro wq29 H30
        replace H30 : S wq29 [Mp placeV Value.string placeOk mg26 (newT (tallN n.toNat) root), Ob g19 (.cells #[.int .i64 n, .int .i64 (((tallN n.toNat : Nat) : Int))] 65 (0, 0)), Ob g1 (.cells #[.int .i64 0] 26 (0, 0)), Old w no] := H30
        refine a_k (H30.mask [false, true, false, false]) ?_
        refine a_take (v := .map (some mg26)) 8 rfl (wt0 rfl) rfl rfl rfl (by kernel_rfl) (by kernel_rfl) (by kernel_rfl) (by kernel_rfl) (H30.mask [false, true, false, false]) (fun wx H => x_move rfl rfl) ?_
        refine a_take (v := .agg #[.int .i64 n, .int .i64 (((tallN n.toNat : Nat) : Int)), .string root, .map (some mg26)]) 9 rfl (wt0 rfl) rfl rfl rfl (by kernel_rfl) (by kernel_rfl) (by kernel_rfl) (by kernel_rfl) (H30.mask [false, true, false, false]) (fun wx H => x_build (vs := [.agg #[.int .i64 n, .int .i64 (((tallN n.toNat : Nat) : Int))], .string root, .map (some mg26)]) rfl rfl (cells := #[.int .i64 n, .int .i64 (((tallN n.toNat : Nat) : Int)), .string root, .map (some mg26)]) (by kernel_rfl)) ?_
        refine a_one (i := 10) (by kernel_rfl) rfl ?_
        refine s_box H30 (wt0 rfl) rfl rfl rfl rfl ?_
        intro g31 wq32 H33
        refine a_k (H33.mask [false, false, true, false, false]) ?_
        refine a_take (v := .pointer (some ⟨g31, 0, none⟩)) 11 rfl (wt0 rfl) rfl rfl rfl (by kernel_rfl) (by kernel_rfl) (by kernel_rfl) (by kernel_rfl) (H33.mask [false, false, true, false, false]) (fun wx H => x_assign rfl rfl) ?_
        refine a_one (i := 12) (by kernel_rfl) rfl ?_
        refine s_store H33 3 (wt0 rfl) rfl rfl rfl rfl rfl sz26 rfl rfl (cs' := #[.int .i64 0]) rfl ?_
        intro wq34 H35
        refine a_k (H35.mask [false, false, true, false, false]) ?_
        refine a_done (by kernel_rfl) ?_
        refine g_then ?_
        refine g_weak [(4, .pointer (some ⟨g31, 0, none⟩)), (5, .pointer (some ⟨g1, 0, none⟩))] ⟨rfl, rfl, trivial⟩ ?_
        refine g_ret ?_
        refine fin_dret ?_
        refine gl_step (by simp) cl30 (caught_n g1 _) ?_
        rintro _ _ wq36 ⟨⟨rfl, H37⟩, rfl⟩
        replace H37 : S wq36 [Ob g31 (.cells #[.int .i64 n, .int .i64 (((tallN n.toNat : Nat) : Int)), .string root, .map (some mg26)] 75 (0, 0)), Mp placeV Value.string placeOk mg26 (newT (tallN n.toNat) root), Ob g19 (.cells #[.int .i64 n, .int .i64 (((tallN n.toNat : Nat) : Int))] 65 (0, 0)), Ob g1 (.cells #[.int .i64 0] 26 (0, 0)), Old w no] := H35.absorb (new := []) H37
        refine (?_ : GL _ _ _ _ _ _ FrameMode.returning _)
        refine gl_ret [.tmp 4, .cell 5 26] [.pointer (some ⟨g31, 0, none⟩), .int .i64 0] rfl ⟨rfl, ⟨_, rfl, run_load1 Tryz.underlying26 rfl (H37.cell (k := 3) rfl rfl)⟩, trivial⟩ ?_
        exact ⟨g31, mg26, rfl, H37.takes [0, 1, 4] (by decide)⟩
  · skip
    refine l_of (s_call (wt0 rfl) (x_call' rfl rfl cl36) (fail_p _ _ (nt hb4) _) ?_)
    rintro _ wq38 ⟨rfl, H39⟩
    replace H39 : S wq38 [Ob g1 (.cells #[.int .i64 0] 26 (0, 0)), Old w no] := H3.absorb (new := []) H39
    refine b_panic ?_
    refine g_then_panic ?_
    refine fin_dpanic ?_
    refine gl_step (by simp) cl30 (caught_p g1 (1) (0) [] _ (H39.ob (k := 0) rfl)) ?_
    rintro _ _ wq40 ⟨⟨rfl, H41⟩, rfl⟩
    replace H41 : S wq40 [Ob g1 (.cells #[.int .i64 1] 26 (0, 0)), Old w no] := H39.absorbK (new := [Ob g1 (.cells #[.int .i64 1] 26 (0, 0))]) [0] (by intro g hg; subst hg; exact ⟨0, rfl, _, rfl, rfl⟩) H41
    refine (?_ : GL _ _ _ _ _ _ FrameMode.returning _)
    refine gl_ret [.tmp 4, .cell 5 26] [.pointer none, .int .i64 1] rfl ⟨rfl, ⟨_, rfl, run_load1 Tryz.underlying26 rfl (H41.cell (k := 0) rfl rfl)⟩, trivial⟩ ?_
    omega
theorem getD_none {o : Option ByteArray} (h : o.isSome = false) : o.getD ⟨#[]⟩ = ⟨#[]⟩ := by cases o with
  | none => rfl
  | some a => cases h
set_option maxRecDepth 20000 in
set_option maxHeartbeats 4000000 in
set_option maxRecDepth 20000 in
set_option maxHeartbeats 4000000 in
theorem getG_s (tg mg n h : Nat) (root : ByteArray) (M : PM) (v i : Int) (h1 : 1 ≤ n) (hn : n ≤ 4096) (hh : h ≤ 12) (w : World) (HS : S w [Ob tg (.cells #[.int .i64 ((n : Int)), .int .i64 ((h : Int)), .string root, .map (some mg)] 75 (0, 0)), Mp placeV Value.string placeOk mg (M)]) : Calls Tryz.prog 17 #[.pointer (some ⟨tg, 0, none⟩), .int .i64 v, .int .i64 i] w fun e w' => e = .returned (.tuple #[.string (getG n h M v i).1, .int .i64 (getG n h M v i).2]) ∧ S w' ([Ob tg (.cells #[.int .i64 ((n : Int)), .int .i64 ((h : Int)), .string root, .map (some mg)] 75 (0, 0)), Mp placeV Value.string placeOk mg (M)] ++ [Old w (fps [Ob tg (.cells #[.int .i64 ((n : Int)), .int .i64 ((h : Int)), .string root, .map (some mg)] 75 (0, 0)), Mp placeV Value.string placeOk mg (M)])]) := by
  have H00 := HS.beginI
  have H0 : S w ([Ob tg (.cells #[.int .i64 ((n : Int)), .int .i64 ((h : Int)), .string root, .map (some mg)] 75 (0, 0)), Mp placeV Value.string placeOk mg (M), Old w (fps [Ob tg (.cells #[.int .i64 ((n : Int)), .int .i64 ((h : Int)), .string root, .map (some mg)] 75 (0, 0)), Mp placeV Value.string placeOk mg (M)])]) := H00
  refine enter_d 30 Tryz.func17 rfl rfl rfl ?_
  refine g_weak [(0, .pointer (some ⟨tg, 0, none⟩)), (1, .int .i64 v), (2, .int .i64 i)] ⟨rfl, rfl, rfl, trivial⟩ ?_
  refine g_seq ?_
  refine g_region ?_
  refine l_of (s_val (v := .string (⟨#[]⟩)) (wt0 rfl) rfl rfl (x_assign rfl rfl) ?_)
  refine l_of (s_alloc H0 (wt0 rfl) rfl rfl rfl ze26 ?_)
  intro g1 wq2 H3
  refine g_nil ?_
  refine g_then ?_
  refine g_seq ?_
  refine g_region ?_
  refine l_of (s_defer (wt0 rfl) rfl (xd_defer rfl rfl rfl) ?_)
  refine g_nil ?_
  refine g_then ?_
  refine g_seq ?_
  refine g_region ?_
  refine l_of (s_val (v := .pointer (some ⟨tg, 0, none⟩)) (wt0 rfl) rfl rfl (x_move rfl rfl) ?_)
  refine l_of (s_val (v := .bool false) (wt0 rfl) rfl rfl (x_bin rfl rfl rfl (b_eqN (r := false) Tryz.underlying29 rfl)) ?_)
  refine l_of (s_call (wt0 rfl) (x_call' rfl rfl cl36) (fail_r _ _ rfl _) ?_)
  rintro _ wq4 ⟨rfl, H5⟩
  replace H5 : S wq4 [Ob g1 (.cells #[.int .i64 0] 26 (0, 0)), Ob tg (.cells #[.int .i64 ((n : Int)), .int .i64 ((h : Int)), .string root, .map (some mg)] 75 (0, 0)), Mp placeV Value.string placeOk mg (M), Old w (fps [Ob tg (.cells #[.int .i64 ((n : Int)), .int .i64 ((h : Int)), .string root, .map (some mg)] 75 (0, 0)), Mp placeV Value.string placeOk mg (M)])] := H3.absorb (new := []) H5
  refine b_ret rfl rfl ?_
  refine g_nil ?_
  refine g_then ?_
  refine g_seq ?_
  refine g_region ?_
  refine l_of (s_val (v := .pointer (some ⟨tg, 0, none⟩)) (wt0 rfl) rfl rfl (x_move rfl rfl) ?_)
  refine l_of (s_val (v := .pointer (some ⟨tg, 0, none⟩)) (wt0 rfl) rfl rfl (x_nilCheck rfl rfl) ?_)
  refine l_of (s_val (v := .pointer (some ⟨tg, 0, none⟩)) (wt0 rfl) rfl rfl (x_fieldAddr rfl rfl fo75_0 rfl) ?_)
  refine l_of (s_val (v := .agg #[.int .i64 ((n : Int)), .int .i64 ((h : Int))]) (wt0 rfl) rfl rfl (x_loadA H5 1 rfl rfl Tryz.underlying65 rfl sz65 rfl rfl rfl) ?_)
  refine l_of (s_val (v := .int .i64 v) (wt0 rfl) rfl rfl (x_move rfl rfl) ?_)
  refine l_of (s_val (v := .int .i64 i) (wt0 rfl) rfl rfl (x_move rfl rfl) ?_)
  refine l_of (s_call (wt0 rfl) (x_call' rfl rfl cl55) (fnode_s _ h v i (by omega) _) ?_)
  rintro _ wq6 ⟨rfl, H7⟩
  replace H7 : S wq6 [Ob g1 (.cells #[.int .i64 0] 26 (0, 0)), Ob tg (.cells #[.int .i64 ((n : Int)), .int .i64 ((h : Int)), .string root, .map (some mg)] 75 (0, 0)), Mp placeV Value.string placeOk mg (M), Old w (fps [Ob tg (.cells #[.int .i64 ((n : Int)), .int .i64 ((h : Int)), .string root, .map (some mg)] 75 (0, 0)), Mp placeV Value.string placeOk mg (M)])] := H5.absorb (new := []) H7
  by_cases hno : nodeOk h v i = true
  · skip
    rw [show nodeV h v i = .returned (.tuple #[]) from if_pos hno]
    refine b_ret rfl rfl ?_
    obtain ⟨o1, o2, o3, o4⟩ := nodeOk_s hno
    obtain ⟨V0, rfl⟩ : ∃ V0 : Nat, v = (V0 : Int) := ⟨v.toNat, by omega⟩
    obtain ⟨I0, rfl⟩ : ∃ I0 : Nat, i = (I0 : Int) := ⟨i.toNat, by omega⟩
    simp only [Int.toNat_natCast] at o4
    have h4096 : 2 ^ (h - V0) ≤ 4096 := Nat.pow_le_pow_right (by omega) (show h - V0 ≤ 12 by omega)
    refine g_nil ?_
    refine g_then ?_
    refine g_seq ?_
    refine g_region ?_
    refine l_of (s_val (v := .pointer (some ⟨tg, 0, none⟩)) (wt0 rfl) rfl rfl (x_move rfl rfl) ?_)
    refine l_of (s_val (v := .int .i64 ((V0 : Int))) (wt0 rfl) rfl rfl (x_move rfl rfl) ?_)
    refine l_of (s_val (v := .int .i64 ((I0 : Int))) (wt0 rfl) rfl rfl (x_move rfl rfl) ?_)
    refine l_of (s_call (wt0 rfl) (x_call' rfl rfl cl56) (get_s tg mg n h root M V0 I0 h1 (by omega) (by omega) (by omega) _ (H7.takes [1, 2] (by decide))) ?_)
    rintro _ wq8 ⟨rfl, H9⟩
    replace H9 : S wq8 [Ob tg (.cells #[.int .i64 ((n : Int)), .int .i64 ((h : Int)), .string root, .map (some mg)] 75 (0, 0)), Mp placeV Value.string placeOk mg (M), Ob g1 (.cells #[.int .i64 0] 26 (0, 0)), Old w (fps [Ob tg (.cells #[.int .i64 ((n : Int)), .int .i64 ((h : Int)), .string root, .map (some mg)] 75 (0, 0)), Mp placeV Value.string placeOk mg (M)])] := H7.absorbI (new := [Ob tg (.cells #[.int .i64 ((n : Int)), .int .i64 ((h : Int)), .string root, .map (some mg)] 75 (0, 0)), Mp placeV Value.string placeOk mg (M)]) [1, 2] H9
    refine b_ret rfl rfl ?_
    refine l_of (s_val (v := .tuple #[.string (((getT n M V0 I0).getD ⟨#[]⟩)), .bool ((getT n M V0 I0).isSome)]) (wt0 rfl) rfl rfl (x_move rfl rfl) ?_)
    refine l_of (s_val (v := .string (((getT n M V0 I0).getD ⟨#[]⟩))) (wt0 rfl) rfl rfl (x_extract rfl rfl rfl) ?_)
    refine l_of (s_val (v := .bool ((getT n M V0 I0).isSome)) (wt0 rfl) rfl rfl (x_extract rfl rfl rfl) ?_)
    refine l_of (s_val (v := .string (((getT n M V0 I0).getD ⟨#[]⟩))) (wt0 rfl) rfl rfl (x_assign rfl rfl) ?_)
    refine l_of (s_val (v := .bool ((getT n M V0 I0).isSome)) (wt0 rfl) rfl rfl (x_assign rfl rfl) ?_)
    refine g_nil ?_
    refine g_then ?_
    refine g_weak [(6, .string (((getT n M V0 I0).getD ⟨#[]⟩))), (7, .pointer (some ⟨g1, 0, none⟩)), (8, .bool ((getT n M V0 I0).isSome))] ⟨rfl, rfl, rfl, trivial⟩ ?_
    refine g_seq ?_
    refine g_region ?_
    refine l_of (s_val (v := .bool ((getT n M V0 I0).isSome)) (wt0 rfl) rfl rfl (x_move rfl rfl) ?_)
    refine l_of (s_val (v := .bool (!((getT n M V0 I0).isSome))) (wt0 rfl) rfl rfl (x_not (b := (getT n M V0 I0).isSome) rfl rfl) ?_)
    rcases Bool.eq_false_or_eq_true ((getT n M V0 I0).isSome) with hb10 | hb10
    · skip
      refine l_of (s_call (wt0 rfl) (x_call' rfl rfl cl36) (fail_r _ _ (neg_of hb10) _) ?_)
      rintro _ wq11 ⟨rfl, H12⟩
      replace H12 : S wq11 [Ob tg (.cells #[.int .i64 ((n : Int)), .int .i64 ((h : Int)), .string root, .map (some mg)] 75 (0, 0)), Mp placeV Value.string placeOk mg (M), Ob g1 (.cells #[.int .i64 0] 26 (0, 0)), Old w (fps [Ob tg (.cells #[.int .i64 ((n : Int)), .int .i64 ((h : Int)), .string root, .map (some mg)] 75 (0, 0)), Mp placeV Value.string placeOk mg (M)])] := H9.absorb (new := []) H12
      refine b_ret rfl rfl ?_
      refine g_nil ?_
      refine g_then ?_
      refine g_seq ?_
      refine g_region ?_
      refine l_of (s_val (v := .string (((getT n M V0 I0).getD ⟨#[]⟩))) (wt0 rfl) rfl rfl (x_move rfl rfl) ?_)
      refine l_of (s_val (v := .string (((getT n M V0 I0).getD ⟨#[]⟩))) (wt0 rfl) rfl rfl (x_assign rfl rfl) ?_)
      refine l_of (s_store H12 2 (wt0 rfl) rfl rfl rfl rfl rfl sz26 rfl rfl (cs' := #[.int .i64 0]) rfl ?_)
      intro wq13 H14
      refine g_nil ?_
      refine g_then ?_
      refine g_ret ?_
      refine fin_dret ?_
      refine gl_step (by simp) cl30 (caught_n g1 _) ?_
      rintro _ _ wq15 ⟨⟨rfl, H16⟩, rfl⟩
      replace H16 : S wq15 [Ob tg (.cells #[.int .i64 ((n : Int)), .int .i64 ((h : Int)), .string root, .map (some mg)] 75 (0, 0)), Mp placeV Value.string placeOk mg (M), Ob g1 (.cells #[.int .i64 0] 26 (0, 0)), Old w (fps [Ob tg (.cells #[.int .i64 ((n : Int)), .int .i64 ((h : Int)), .string root, .map (some mg)] 75 (0, 0)), Mp placeV Value.string placeOk mg (M)])] := H14.absorb (new := []) H16
      refine (?_ : GL _ _ _ _ _ _ FrameMode.returning _)
      refine gl_ret [.tmp 6, .cell 7 26] [.string (((getT n M V0 I0).getD ⟨#[]⟩)), .int .i64 0] rfl ⟨rfl, ⟨_, rfl, run_load1 Tryz.underlying26 rfl (H16.cell (k := 2) rfl rfl)⟩, trivial⟩ ?_
      have hsm := hb10
      exact ⟨by unfold getG; simp only [Int.toNat_natCast]; rw [if_pos hno, if_pos hsm]; rfl, H16.takes [0, 1, 3] (by decide)⟩
    · skip
      refine l_of (s_call (wt0 rfl) (x_call' rfl rfl cl36) (fail_p _ _ (neg_of hb10) _) ?_)
      rintro _ wq17 ⟨rfl, H18⟩
      replace H18 : S wq17 [Ob tg (.cells #[.int .i64 ((n : Int)), .int .i64 ((h : Int)), .string root, .map (some mg)] 75 (0, 0)), Mp placeV Value.string placeOk mg (M), Ob g1 (.cells #[.int .i64 0] 26 (0, 0)), Old w (fps [Ob tg (.cells #[.int .i64 ((n : Int)), .int .i64 ((h : Int)), .string root, .map (some mg)] 75 (0, 0)), Mp placeV Value.string placeOk mg (M)])] := H9.absorb (new := []) H18
      refine b_panic ?_
      refine g_then_panic ?_
      refine fin_dpanic ?_
      refine gl_step (by simp) cl30 (caught_p g1 (8) (0) [] _ (H18.ob (k := 2) rfl)) ?_
      rintro _ _ wq19 ⟨⟨rfl, H20⟩, rfl⟩
      replace H20 : S wq19 [Ob g1 (.cells #[.int .i64 8] 26 (0, 0)), Ob tg (.cells #[.int .i64 ((n : Int)), .int .i64 ((h : Int)), .string root, .map (some mg)] 75 (0, 0)), Mp placeV Value.string placeOk mg (M), Old w (fps [Ob tg (.cells #[.int .i64 ((n : Int)), .int .i64 ((h : Int)), .string root, .map (some mg)] 75 (0, 0)), Mp placeV Value.string placeOk mg (M)])] := H18.absorbK (new := [Ob g1 (.cells #[.int .i64 8] 26 (0, 0))]) [2] (by intro g hg; subst hg; exact ⟨2, rfl, _, rfl, rfl⟩) H20
      refine (?_ : GL _ _ _ _ _ _ FrameMode.returning _)
      refine gl_ret [.tmp 6, .cell 7 26] [.string (((getT n M V0 I0).getD ⟨#[]⟩)), .int .i64 8] rfl ⟨rfl, ⟨_, rfl, run_load1 Tryz.underlying26 rfl (H20.cell (k := 0) rfl rfl)⟩, trivial⟩ ?_
      have hsm := hb10
      exact ⟨by unfold getG; simp only [Int.toNat_natCast]; rw [if_pos hno, if_neg (by rw [hsm]; exact Bool.false_ne_true), getD_none hsm]; rfl, H20.takes [1, 2, 3] (by decide)⟩
  · skip
    rw [show nodeV h v i = .panicked [{ v := .iface 105 (.int .i64 7), recovered := false }] from if_neg hno]
    refine b_panic ?_
    refine g_then_panic ?_
    refine fin_dpanic ?_
    refine gl_step (by simp) cl30 (caught_p g1 (7) (0) [] _ (H7.ob (k := 0) rfl)) ?_
    rintro _ _ wq21 ⟨⟨rfl, H22⟩, rfl⟩
    replace H22 : S wq21 [Ob g1 (.cells #[.int .i64 7] 26 (0, 0)), Ob tg (.cells #[.int .i64 ((n : Int)), .int .i64 ((h : Int)), .string root, .map (some mg)] 75 (0, 0)), Mp placeV Value.string placeOk mg (M), Old w (fps [Ob tg (.cells #[.int .i64 ((n : Int)), .int .i64 ((h : Int)), .string root, .map (some mg)] 75 (0, 0)), Mp placeV Value.string placeOk mg (M)])] := H7.absorbK (new := [Ob g1 (.cells #[.int .i64 7] 26 (0, 0))]) [0] (by intro g hg; subst hg; exact ⟨0, rfl, _, rfl, rfl⟩) H22
    refine (?_ : GL _ _ _ _ _ _ FrameMode.returning _)
    refine gl_ret [.tmp 6, .cell 7 26] [.string (⟨#[]⟩), .int .i64 7] rfl ⟨rfl, ⟨_, rfl, run_load1 Tryz.underlying26 rfl (H22.cell (k := 0) rfl rfl)⟩, trivial⟩ ?_
    exact ⟨by unfold getG; rw [if_neg hno]; rfl, H22.takes [1, 2, 3] (by decide)⟩
set_option maxRecDepth 20000 in
set_option maxHeartbeats 4000000 in
set_option maxRecDepth 20000 in
set_option maxHeartbeats 4000000 in
theorem missing_s (tg mg n h : Nat) (root : ByteArray) (M : PM) (v : Int) (h1 : 1 ≤ n) (hn : n ≤ 4096) (hh : h ≤ 12) (w : World) (HS : S w [Ob tg (.cells #[.int .i64 ((n : Int)), .int .i64 ((h : Int)), .string root, .map (some mg)] 75 (0, 0)), Mp placeV Value.string placeOk mg (M)]) : Calls Tryz.prog 22 #[.pointer (some ⟨tg, 0, none⟩), .int .i64 v] w fun e w' => ∃ p c, e = .returned (.tuple #[.slice p (missT n h M v).1.length c, .int .i64 (missT n h M v).2]) ∧ S w' ([Rw 3 1 p (missT n h M v).1.length c (intV (missT n h M v).1), Ob tg (.cells #[.int .i64 ((n : Int)), .int .i64 ((h : Int)), .string root, .map (some mg)] 75 (0, 0)), Mp placeV Value.string placeOk mg (M)] ++ [Old w (fps [Ob tg (.cells #[.int .i64 ((n : Int)), .int .i64 ((h : Int)), .string root, .map (some mg)] 75 (0, 0)), Mp placeV Value.string placeOk mg (M)])]) := by
  have H00 := HS.beginI
  have H0 : S w ([Ob tg (.cells #[.int .i64 ((n : Int)), .int .i64 ((h : Int)), .string root, .map (some mg)] 75 (0, 0)), Mp placeV Value.string placeOk mg (M), Old w (fps [Ob tg (.cells #[.int .i64 ((n : Int)), .int .i64 ((h : Int)), .string root, .map (some mg)] 75 (0, 0)), Mp placeV Value.string placeOk mg (M)])]) := H00
  refine enter_d 42 Tryz.func22 rfl rfl rfl ?_
  refine g_weak [(0, .pointer (some ⟨tg, 0, none⟩)), (1, .int .i64 v)] ⟨rfl, rfl, trivial⟩ ?_
  refine g_seq ?_
  refine g_region ?_
  refine l_of (s_val (v := .slice none 0 0) (wt0 rfl) rfl rfl (x_assign rfl rfl) ?_)
  refine l_of (s_alloc H0 (wt0 rfl) rfl rfl rfl ze26 ?_)
  intro g1 wq2 H3
  refine g_nil ?_
  refine g_then ?_
  refine g_seq ?_
  refine g_region ?_
  refine l_of (s_defer (wt0 rfl) rfl (xd_defer rfl rfl rfl) ?_)
  refine g_nil ?_
  refine g_then ?_
  refine g_seq ?_
  refine g_region ?_
  refine l_of (s_val (v := .pointer (some ⟨tg, 0, none⟩)) (wt0 rfl) rfl rfl (x_move rfl rfl) ?_)
  refine l_of (s_val (v := .bool false) (wt0 rfl) rfl rfl (x_bin rfl rfl rfl (b_eqN (r := false) Tryz.underlying29 rfl)) ?_)
  refine l_of (s_call (wt0 rfl) (x_call' rfl rfl cl36) (fail_r _ _ rfl _) ?_)
  rintro _ wq4 ⟨rfl, H5⟩
  replace H5 : S wq4 [Ob g1 (.cells #[.int .i64 0] 26 (0, 0)), Ob tg (.cells #[.int .i64 ((n : Int)), .int .i64 ((h : Int)), .string root, .map (some mg)] 75 (0, 0)), Mp placeV Value.string placeOk mg (M), Old w (fps [Ob tg (.cells #[.int .i64 ((n : Int)), .int .i64 ((h : Int)), .string root, .map (some mg)] 75 (0, 0)), Mp placeV Value.string placeOk mg (M)])] := H3.absorb (new := []) H5
  refine b_ret rfl rfl ?_
  refine g_nil ?_
  refine g_then ?_
  refine g_seq ?_
  refine g_region ?_
  refine l_of (s_val (v := .pointer (some ⟨tg, 0, none⟩)) (wt0 rfl) rfl rfl (x_move rfl rfl) ?_)
  refine l_of (s_val (v := .pointer (some ⟨tg, 0, none⟩)) (wt0 rfl) rfl rfl (x_nilCheck rfl rfl) ?_)
  refine l_of (s_val (v := .pointer (some ⟨tg, 0, none⟩)) (wt0 rfl) rfl rfl (x_fieldAddr rfl rfl fo75_0 rfl) ?_)
  refine l_of (s_val (v := .agg #[.int .i64 ((n : Int)), .int .i64 ((h : Int))]) (wt0 rfl) rfl rfl (x_loadA H5 1 rfl rfl Tryz.underlying65 rfl sz65 rfl rfl rfl) ?_)
  refine l_of (s_val (v := .int .i64 v) (wt0 rfl) rfl rfl (x_move rfl rfl) ?_)
  by_cases hb6 : (v : Int) < 0
  · skip
    refine l_of (s_call (wt0 rfl) (x_call' rfl rfl cl61) (level_p1 _ _ _ (of_decide_eq_true (decide_eq_true hb6)) _) ?_)
    rintro _ wq7 ⟨rfl, H8⟩
    replace H8 : S wq7 [Ob g1 (.cells #[.int .i64 0] 26 (0, 0)), Ob tg (.cells #[.int .i64 ((n : Int)), .int .i64 ((h : Int)), .string root, .map (some mg)] 75 (0, 0)), Mp placeV Value.string placeOk mg (M), Old w (fps [Ob tg (.cells #[.int .i64 ((n : Int)), .int .i64 ((h : Int)), .string root, .map (some mg)] 75 (0, 0)), Mp placeV Value.string placeOk mg (M)])] := H5.absorb (new := []) H8
    refine b_panic ?_
    refine g_then_panic ?_
    refine fin_dpanic ?_
    refine gl_step (by simp) cl30 (caught_p g1 (7) (0) [] _ (H8.ob (k := 0) rfl)) ?_
    rintro _ _ wq9 ⟨⟨rfl, H10⟩, rfl⟩
    replace H10 : S wq9 [Ob g1 (.cells #[.int .i64 7] 26 (0, 0)), Ob tg (.cells #[.int .i64 ((n : Int)), .int .i64 ((h : Int)), .string root, .map (some mg)] 75 (0, 0)), Mp placeV Value.string placeOk mg (M), Old w (fps [Ob tg (.cells #[.int .i64 ((n : Int)), .int .i64 ((h : Int)), .string root, .map (some mg)] 75 (0, 0)), Mp placeV Value.string placeOk mg (M)])] := H8.absorbK (new := [Ob g1 (.cells #[.int .i64 7] 26 (0, 0))]) [0] (by intro g hg; subst hg; exact ⟨0, rfl, _, rfl, rfl⟩) H10
    refine (?_ : GL _ _ _ _ _ _ FrameMode.returning _)
    refine gl_ret [.tmp 4, .cell 5 26] [.slice none 0 0, .int .i64 7] rfl ⟨rfl, ⟨_, rfl, run_load1 Tryz.underlying26 rfl (H10.cell (k := 0) rfl rfl)⟩, trivial⟩ ?_
    have hd : missT n h M v = ([], 7) := by unfold missT; rw [if_neg (by omega)]
    rw [hd]
    exact ⟨none, 0, rfl, (H10.takes [1, 2, 3] (by decide)).nilRw 3 1⟩
  · skip
    by_cases hb11 : ((h : Int) : Int) < v
    · skip
      refine l_of (s_call (wt0 rfl) (x_call' rfl rfl cl61) (level_p2 _ _ _ (of_decide_eq_false (decide_eq_false hb6)) (of_decide_eq_true (decide_eq_true hb11)) _) ?_)
      rintro _ wq12 ⟨rfl, H13⟩
      replace H13 : S wq12 [Ob g1 (.cells #[.int .i64 0] 26 (0, 0)), Ob tg (.cells #[.int .i64 ((n : Int)), .int .i64 ((h : Int)), .string root, .map (some mg)] 75 (0, 0)), Mp placeV Value.string placeOk mg (M), Old w (fps [Ob tg (.cells #[.int .i64 ((n : Int)), .int .i64 ((h : Int)), .string root, .map (some mg)] 75 (0, 0)), Mp placeV Value.string placeOk mg (M)])] := H5.absorb (new := []) H13
      refine b_panic ?_
      refine g_then_panic ?_
      refine fin_dpanic ?_
      refine gl_step (by simp) cl30 (caught_p g1 (7) (0) [] _ (H13.ob (k := 0) rfl)) ?_
      rintro _ _ wq14 ⟨⟨rfl, H15⟩, rfl⟩
      replace H15 : S wq14 [Ob g1 (.cells #[.int .i64 7] 26 (0, 0)), Ob tg (.cells #[.int .i64 ((n : Int)), .int .i64 ((h : Int)), .string root, .map (some mg)] 75 (0, 0)), Mp placeV Value.string placeOk mg (M), Old w (fps [Ob tg (.cells #[.int .i64 ((n : Int)), .int .i64 ((h : Int)), .string root, .map (some mg)] 75 (0, 0)), Mp placeV Value.string placeOk mg (M)])] := H13.absorbK (new := [Ob g1 (.cells #[.int .i64 7] 26 (0, 0))]) [0] (by intro g hg; subst hg; exact ⟨0, rfl, _, rfl, rfl⟩) H15
      refine (?_ : GL _ _ _ _ _ _ FrameMode.returning _)
      refine gl_ret [.tmp 4, .cell 5 26] [.slice none 0 0, .int .i64 7] rfl ⟨rfl, ⟨_, rfl, run_load1 Tryz.underlying26 rfl (H15.cell (k := 0) rfl rfl)⟩, trivial⟩ ?_
      have hd : missT n h M v = ([], 7) := by unfold missT; rw [if_neg (by omega)]
      rw [hd]
      exact ⟨none, 0, rfl, (H15.takes [1, 2, 3] (by decide)).nilRw 3 1⟩
    · skip
      refine l_of (s_call (wt0 rfl) (x_call' rfl rfl cl61) (level_r _ _ _ (of_decide_eq_false (decide_eq_false hb6)) (of_decide_eq_false (decide_eq_false hb11)) _) ?_)
      rintro _ wq16 ⟨rfl, H17⟩
      replace H17 : S wq16 [Ob g1 (.cells #[.int .i64 0] 26 (0, 0)), Ob tg (.cells #[.int .i64 ((n : Int)), .int .i64 ((h : Int)), .string root, .map (some mg)] 75 (0, 0)), Mp placeV Value.string placeOk mg (M), Old w (fps [Ob tg (.cells #[.int .i64 ((n : Int)), .int .i64 ((h : Int)), .string root, .map (some mg)] 75 (0, 0)), Mp placeV Value.string placeOk mg (M)])] := H5.absorb (new := []) H17
      refine b_ret rfl rfl ?_
      obtain ⟨V0, rfl⟩ : ∃ V0 : Nat, v = (V0 : Int) := ⟨v.toNat, by omega⟩
      have hcp := countN_pos n V0
      have hcn : countN n V0 ≤ n := by unfold countN; have := Nat.div_le_self (n - 1) (2 ^ V0); omega
      refine g_nil ?_
      refine g_then ?_
      refine g_seq ?_
      refine g_seq ?_
      refine g_region ?_
      refine l_of (s_val (v := .pointer (some ⟨tg, 0, none⟩)) (wt0 rfl) rfl rfl (x_move rfl rfl) ?_)
      refine l_of (s_val (v := .pointer (some ⟨tg, 0, none⟩)) (wt0 rfl) rfl rfl (x_nilCheck rfl rfl) ?_)
      refine l_of (s_val (v := .pointer (some ⟨tg, 0, none⟩)) (wt0 rfl) rfl rfl (x_fieldAddr rfl rfl fo75_0 rfl) ?_)
      refine l_of (s_val (v := .agg #[.int .i64 ((n : Int)), .int .i64 ((h : Int))]) (wt0 rfl) rfl rfl (x_loadA H17 1 rfl rfl Tryz.underlying65 rfl sz65 rfl rfl rfl) ?_)
      refine l_of (s_val (v := .int .i64 ((V0 : Int))) (wt0 rfl) rfl rfl (x_move rfl rfl) ?_)
      refine l_of (s_call (wt0 rfl) (x_call' rfl rfl cl62) (counts_r _ _ _ (by omega) (by omega) (by omega) _) ?_)
      rintro _ wq18 ⟨rfl, H19⟩
      replace H19 : S wq18 [Ob g1 (.cells #[.int .i64 0] 26 (0, 0)), Ob tg (.cells #[.int .i64 ((n : Int)), .int .i64 ((h : Int)), .string root, .map (some mg)] 75 (0, 0)), Mp placeV Value.string placeOk mg (M), Old w (fps [Ob tg (.cells #[.int .i64 ((n : Int)), .int .i64 ((h : Int)), .string root, .map (some mg)] 75 (0, 0)), Mp placeV Value.string placeOk mg (M)])] := H17.absorb (new := []) H19
      refine b_ret rfl rfl ?_
      refine l_of (s_val (v := .int .i64 0) (wt0 rfl) rfl rfl (x_move rfl rfl) ?_)
      refine g_nil ?_
      refine g_then ?_
      refine g_weak [(0, .pointer (some ⟨tg, 0, none⟩)), (1, .int .i64 ((V0 : Int))), (4, .slice none 0 0), (5, .pointer (some ⟨g1, 0, none⟩)), (23, .int .i64 (((countN n V0 : Nat) : Int))), (24, .int .i64 0)] ⟨rfl, rfl, rfl, rfl, rfl, rfl, trivial⟩ ?_
      refine g_block ?_
      refine g_loop (ι := Nat × Option Addr × Nat) (fun (k, q, d) => [(0, .pointer (some ⟨tg, 0, none⟩)), (1, .int .i64 ((V0 : Int))), (4, .slice q (missTo M V0 k).length d), (5, .pointer (some ⟨g1, 0, none⟩)), (23, .int .i64 (((countN n V0 : Nat) : Int))), (24, .int .i64 ((k : Int)))]) (fun (k, q, d) wx => (k ≤ countN n V0) ∧ S wx [Rw 3 1 q (missTo M V0 k).length d (intV (missTo M V0 k)), Ob g1 (.cells #[.int .i64 0] 26 (0, 0)), Ob tg (.cells #[.int .i64 ((n : Int)), .int .i64 ((h : Int)), .string root, .map (some mg)] 75 (0, 0)), Mp placeV Value.string placeOk mg (M), Old w (fps [Ob tg (.cells #[.int .i64 ((n : Int)), .int .i64 ((h : Int)), .string root, .map (some mg)] 75 (0, 0)), Mp placeV Value.string placeOk mg (M)])]) (fun (k, q, d) => countN n V0 - k) (0, none, 0) ⟨rfl, rfl, rfl, rfl, rfl, rfl, trivial⟩ ⟨Nat.zero_le _, (H19.nilRw 3 1)⟩ ?_
      rintro ⟨k, q, d⟩ wq20 ⟨hk, H21⟩
      replace H21 : S wq20 [Rw 3 1 q (missTo M V0 k).length d (intV (missTo M V0 k)), Ob g1 (.cells #[.int .i64 0] 26 (0, 0)), Ob tg (.cells #[.int .i64 ((n : Int)), .int .i64 ((h : Int)), .string root, .map (some mg)] 75 (0, 0)), Mp placeV Value.string placeOk mg (M), Old w (fps [Ob tg (.cells #[.int .i64 ((n : Int)), .int .i64 ((h : Int)), .string root, .map (some mg)] 75 (0, 0)), Mp placeV Value.string placeOk mg (M)])] := H21
      refine g_weak [(0, .pointer (some ⟨tg, 0, none⟩)), (1, .int .i64 ((V0 : Int))), (4, .slice q (missTo M V0 k).length d), (5, .pointer (some ⟨g1, 0, none⟩)), (23, .int .i64 (((countN n V0 : Nat) : Int))), (24, .int .i64 ((k : Int)))] ⟨rfl, rfl, rfl, rfl, rfl, rfl, trivial⟩ ?_
      have hml := miss_len M V0 k
      refine g_seq ?_
      refine g_region ?_
      refine l_of (s_val (v := .bool (decide (((k : Int) : Int) < ((countN n V0 : Nat) : Int)))) (wt0 rfl) rfl rfl (x_bin rfl rfl rfl b_lss) ?_)
      refine g_nil ?_
      refine g_then ?_
      refine g_seq ?_
      by_cases hb22 : ((k : Int) : Int) < ((countN n V0 : Nat) : Int)
      · skip
        refine g_cond_t rfl (decide_eq_true hb22) ?_
        refine g_skip ?_
        refine g_then ?_
        refine g_seq ?_
        refine g_block ?_
        refine g_seq ?_
        refine g_region ?_
        refine l_of (s_val (v := .int .i64 ((k : Int))) (wt0 rfl) rfl rfl (x_move rfl rfl) ?_)
        refine l_of (s_val (v := .int .i64 ((k : Int))) (wt0 rfl) rfl rfl (x_assign rfl rfl) ?_)
        refine g_nil ?_
        refine g_then ?_
        refine g_seq ?_
        refine g_region ?_
        refine l_of (s_val (v := .pointer (some ⟨tg, 0, none⟩)) (wt0 rfl) rfl rfl (x_move rfl rfl) ?_)
        refine l_of (s_val (v := .int .i64 ((V0 : Int))) (wt0 rfl) rfl rfl (x_move rfl rfl) ?_)
        refine l_of (s_val (v := .int .i64 ((k : Int))) (wt0 rfl) rfl rfl (x_move rfl rfl) ?_)
        refine l_of (s_call (wt0 rfl) (x_call' rfl rfl cl56) (get_s tg mg n h root M V0 k h1 (by omega) (by omega) (by omega) _ (H21.takes [2, 3] (by decide))) ?_)
        rintro _ wq23 ⟨rfl, H24⟩
        replace H24 : S wq23 [Ob tg (.cells #[.int .i64 ((n : Int)), .int .i64 ((h : Int)), .string root, .map (some mg)] 75 (0, 0)), Mp placeV Value.string placeOk mg (M), Rw 3 1 q (missTo M V0 k).length d (intV (missTo M V0 k)), Ob g1 (.cells #[.int .i64 0] 26 (0, 0)), Old w (fps [Ob tg (.cells #[.int .i64 ((n : Int)), .int .i64 ((h : Int)), .string root, .map (some mg)] 75 (0, 0)), Mp placeV Value.string placeOk mg (M)])] := H21.absorbI (new := [Ob tg (.cells #[.int .i64 ((n : Int)), .int .i64 ((h : Int)), .string root, .map (some mg)] 75 (0, 0)), Mp placeV Value.string placeOk mg (M)]) [2, 3] H24
        refine b_ret rfl rfl ?_
        refine l_of (s_val (v := .tuple #[.string (((getT n M V0 k).getD ⟨#[]⟩)), .bool ((getT n M V0 k).isSome)]) (wt0 rfl) rfl rfl (x_move rfl rfl) ?_)
        refine l_of (s_val (v := .string (((getT n M V0 k).getD ⟨#[]⟩))) (wt0 rfl) rfl rfl (x_extract rfl rfl rfl) ?_)
        refine l_of (s_val (v := .bool ((getT n M V0 k).isSome)) (wt0 rfl) rfl rfl (x_extract rfl rfl rfl) ?_)
        refine l_of (s_val (v := .string (((getT n M V0 k).getD ⟨#[]⟩))) (wt0 rfl) rfl rfl (x_assign rfl rfl) ?_)
        refine l_of (s_val (v := .bool ((getT n M V0 k).isSome)) (wt0 rfl) rfl rfl (x_assign rfl rfl) ?_)
        refine g_nil ?_
        refine g_then ?_
        refine g_seq ?_
        refine g_region ?_
        refine l_of (s_val (v := .bool ((getT n M V0 k).isSome)) (wt0 rfl) rfl rfl (x_move rfl rfl) ?_)
        refine l_of (s_val (v := .bool (!((getT n M V0 k).isSome))) (wt0 rfl) rfl rfl (x_not (b := (getT n M V0 k).isSome) rfl rfl) ?_)
        refine g_nil ?_
        refine g_then ?_
        refine g_weak [(0, .pointer (some ⟨tg, 0, none⟩)), (1, .int .i64 ((V0 : Int))), (4, .slice q (missTo M V0 k).length d), (5, .pointer (some ⟨g1, 0, none⟩)), (6, .int .i64 ((k : Int))), (23, .int .i64 (((countN n V0 : Nat) : Int))), (24, .int .i64 ((k : Int))), (35, .bool (!((getT n M V0 k).isSome)))] ⟨rfl, rfl, rfl, rfl, rfl, rfl, rfl, rfl, trivial⟩ ?_
        rcases Bool.eq_false_or_eq_true ((getT n M V0 k).isSome) with hb25 | hb25
        · skip
          refine g_cond_f rfl (neg_of hb25) ?_
          refine g_skip ?_
          refine g_in ?_
          refine g_then ?_
          refine g_region ?_
          refine l_of (s_val (v := .int .i64 ((k : Int) + 1)) (wt0 rfl) rfl rfl (x_bin rfl rfl rfl (b_add (w64 (by omega)))) ?_)
          refine l_of (s_val (v := .int .i64 ((k : Int) + 1)) (wt0 rfl) rfl rfl (x_move rfl rfl) ?_)
          refine g_nil ?_
          refine g_then ?_
          have hg : (getT n M V0 k).isSome = (M (V0, k)).isSome := by unfold getT; rw [if_neg (by omega)]
          have hms : (missTo M V0 (k + 1)) = (missTo M V0 k) := by rw [miss_next, ← hg, if_pos hb25]
          have H26 : S wq23 [Rw 3 1 q (missTo M V0 (k + 1)).length d (intV (missTo M V0 (k + 1))), Ob g1 (.cells #[.int .i64 0] 26 (0, 0)), Ob tg (.cells #[.int .i64 ((n : Int)), .int .i64 ((h : Int)), .string root, .map (some mg)] 75 (0, 0)), Mp placeV Value.string placeOk mg (M), Old w (fps [Ob tg (.cells #[.int .i64 ((n : Int)), .int .i64 ((h : Int)), .string root, .map (some mg)] 75 (0, 0)), Mp placeV Value.string placeOk mg (M)])] := by rw [hms]; exact H24.takes [2, 3, 0, 1, 4] (by decide)
          rw [← hms]
          refine g_round (i := (k, q, d)) (k + 1, q, d) ?_ ?_ ?_
          · exact ⟨rfl, rfl, rfl, rfl, rfl, rfl, trivial⟩
          · exact ⟨by omega, H26⟩
          · (try dsimp only); omega
        · skip
          refine g_cond_t rfl (neg_of hb25) ?_
          refine g_region ?_
          refine l_of (s_val (v := .slice q (missTo M V0 k).length d) (wt0 rfl) rfl rfl (x_move rfl rfl) ?_)
          refine l_of (s_val (v := .int .i64 ((k : Int))) (wt0 rfl) rfl rfl (x_move rfl rfl) ?_)
          refine l_of (s_buildSlice H24 (wt0 rfl) rfl rfl rfl (vs := [.int .i64 ((k : Int))]) rfl Tryz.underlying51 sz3 ze3 rfl rfl (cells := #[.int .i64 ((k : Int))]) (by kernel_rfl) ?_)
          intro g27 wq28 H29
          refine l_of (s_appendR (n := (missTo M V0 k).length) (m := 1) (sc := d) (xs := (intV (missTo M V0 k))) (news := [.int .i64 ((k : Int))]) (p := q) (ad := ⟨g27, 0, none⟩) H29 3 (wt0 rfl) rfl rfl rfl rfl rfl rfl Tryz.underlying51 inf3 rfl (by decide) (by decide) rfl (by decide) (news_ob H29 (j0 := 0) rfl) rfl (by omega) ?_)
          intro p30 c31 wq32 (H33 : S wq32 [Ob g27 (.cells #[.int .i64 ((k : Int))] 3 (0, 0)), Ob tg (.cells #[.int .i64 ((n : Int)), .int .i64 ((h : Int)), .string root, .map (some mg)] 75 (0, 0)), Mp placeV Value.string placeOk mg (M), Rw 3 1 p30 ((missTo M V0 k).length + 1) c31 ((intV (missTo M V0 k)) ++ [.int .i64 ((k : Int))]), Ob g1 (.cells #[.int .i64 0] 26 (0, 0)), Old w (fps [Ob tg (.cells #[.int .i64 ((n : Int)), .int .i64 ((h : Int)), .string root, .map (some mg)] 75 (0, 0)), Mp placeV Value.string placeOk mg (M)])])
          refine l_of (s_val (v := .slice p30 ((missTo M V0 k).length + 1) c31) (wt0 rfl) rfl rfl (x_assign rfl rfl) ?_)
          refine g_nil ?_
          refine g_in ?_
          refine g_then ?_
          refine g_region ?_
          refine l_of (s_val (v := .int .i64 ((k : Int) + 1)) (wt0 rfl) rfl rfl (x_bin rfl rfl rfl (b_add (w64 (by omega)))) ?_)
          refine l_of (s_val (v := .int .i64 ((k : Int) + 1)) (wt0 rfl) rfl rfl (x_move rfl rfl) ?_)
          refine g_nil ?_
          refine g_then ?_
          have hg : (getT n M V0 k).isSome = (M (V0, k)).isSome := by unfold getT; rw [if_neg (by omega)]
          have hms : (missTo M V0 (k + 1)) = (missTo M V0 k) ++ [k] := by rw [miss_next, ← hg, if_neg (by rw [hb25]; exact Bool.false_ne_true)]
          have H34 : S wq32 [Rw 3 1 p30 (missTo M V0 (k + 1)).length c31 (intV (missTo M V0 (k + 1))), Ob g1 (.cells #[.int .i64 0] 26 (0, 0)), Ob tg (.cells #[.int .i64 ((n : Int)), .int .i64 ((h : Int)), .string root, .map (some mg)] 75 (0, 0)), Mp placeV Value.string placeOk mg (M), Old w (fps [Ob tg (.cells #[.int .i64 ((n : Int)), .int .i64 ((h : Int)), .string root, .map (some mg)] 75 (0, 0)), Mp placeV Value.string placeOk mg (M)])] := by rw [hms, List.length_append, intV_snoc]; exact H33.takes [3, 4, 1, 2, 5] (by decide)
          rw [show (missTo M V0 k).length + 1 = (missTo M V0 (k + 1)).length from by rw [hms, List.length_append]; rfl]
          refine g_round (i := (k, q, d)) (k + 1, p30, c31) ?_ ?_ ?_
          · exact ⟨rfl, rfl, rfl, rfl, rfl, rfl, trivial⟩
          · exact ⟨by omega, H34⟩
          · (try dsimp only); omega
      · skip
        have hkk : k = countN n V0 := by omega
        subst hkk
        refine g_cond_f rfl (decide_eq_false hb22) ?_
        refine g_exit ?_
        refine g_then_exit ?_
        refine g_then_exit ?_
        refine g_in_hit ?_
        refine g_then ?_
        refine g_seq ?_
        refine g_region ?_
        refine l_of (s_val (v := .slice q (missTo M V0 (countN n V0)).length d) (wt0 rfl) rfl rfl (x_move rfl rfl) ?_)
        refine l_of (s_val (v := .slice q (missTo M V0 (countN n V0)).length d) (wt0 rfl) rfl rfl (x_assign rfl rfl) ?_)
        refine l_of (s_store H21 1 (wt0 rfl) rfl rfl rfl rfl rfl sz26 rfl rfl (cs' := #[.int .i64 0]) rfl ?_)
        intro wq35 H36
        refine g_nil ?_
        refine g_then ?_
        refine g_ret ?_
        refine fin_dret ?_
        refine gl_step (by simp) cl30 (caught_n g1 _) ?_
        rintro _ _ wq37 ⟨⟨rfl, H38⟩, rfl⟩
        replace H38 : S wq37 [Rw 3 1 q (missTo M V0 (countN n V0)).length d (intV (missTo M V0 (countN n V0))), Ob g1 (.cells #[.int .i64 0] 26 (0, 0)), Ob tg (.cells #[.int .i64 ((n : Int)), .int .i64 ((h : Int)), .string root, .map (some mg)] 75 (0, 0)), Mp placeV Value.string placeOk mg (M), Old w (fps [Ob tg (.cells #[.int .i64 ((n : Int)), .int .i64 ((h : Int)), .string root, .map (some mg)] 75 (0, 0)), Mp placeV Value.string placeOk mg (M)])] := H36.absorb (new := []) H38
        refine (?_ : GL _ _ _ _ _ _ FrameMode.returning _)
        refine gl_ret [.tmp 4, .cell 5 26] [.slice q (missTo M V0 (countN n V0)).length d, .int .i64 0] rfl ⟨rfl, ⟨_, rfl, run_load1 Tryz.underlying26 rfl (H38.cell (k := 1) rfl rfl)⟩, trivial⟩ ?_
        have hd : missT n h M (V0 : Int) = (missTo M V0 (countN n V0), 0) := by unfold missT; rw [if_pos (by omega), Int.toNat_natCast]
        rw [hd]
        exact ⟨_, _, rfl, H38.takes [0, 2, 3, 4] (by decide)⟩
set_option maxRecDepth 20000 in
set_option maxHeartbeats 4000000 in
set_option maxRecDepth 20000 in
set_option maxHeartbeats 4000000 in
theorem known_s (tg mg n h : Nat) (root : ByteArray) (M : PM) (v : Int) (h1 : 1 ≤ n) (hn : n ≤ 4096) (hh : h ≤ 12) (w : World) (HS : S w [Ob tg (.cells #[.int .i64 ((n : Int)), .int .i64 ((h : Int)), .string root, .map (some mg)] 75 (0, 0)), Mp placeV Value.string placeOk mg (M)]) : Calls Tryz.prog 24 #[.pointer (some ⟨tg, 0, none⟩), .int .i64 v] w fun e w' => e = .returned (.tuple #[.int .i64 (knownT n h M v).1, .int .i64 (knownT n h M v).2]) ∧ S w' ([Ob tg (.cells #[.int .i64 ((n : Int)), .int .i64 ((h : Int)), .string root, .map (some mg)] 75 (0, 0)), Mp placeV Value.string placeOk mg (M)] ++ [Old w (fps [Ob tg (.cells #[.int .i64 ((n : Int)), .int .i64 ((h : Int)), .string root, .map (some mg)] 75 (0, 0)), Mp placeV Value.string placeOk mg (M)])]) := by
  have H00 := HS.beginI
  have H0 : S w ([Ob tg (.cells #[.int .i64 ((n : Int)), .int .i64 ((h : Int)), .string root, .map (some mg)] 75 (0, 0)), Mp placeV Value.string placeOk mg (M), Old w (fps [Ob tg (.cells #[.int .i64 ((n : Int)), .int .i64 ((h : Int)), .string root, .map (some mg)] 75 (0, 0)), Mp placeV Value.string placeOk mg (M)])]) := H00
  refine enter 26 Tryz.func24 rfl rfl rfl ?_
  refine g_weak [(0, .pointer (some ⟨tg, 0, none⟩)), (1, .int .i64 v)] ⟨rfl, rfl, trivial⟩ ?_
  refine g_seq ?_
  refine g_region ?_
  refine l_of (s_val (v := .int .i64 0) (wt0 rfl) rfl rfl (x_assign rfl rfl) ?_)
  refine l_of (s_val (v := .int .i64 0) (wt0 rfl) rfl rfl (x_assign rfl rfl) ?_)
  refine g_nil ?_
  refine g_then ?_
  refine g_seq ?_
  refine g_region ?_
  refine l_of (s_val (v := .pointer (some ⟨tg, 0, none⟩)) (wt0 rfl) rfl rfl (x_move rfl rfl) ?_)
  refine l_of (s_val (v := .int .i64 v) (wt0 rfl) rfl rfl (x_move rfl rfl) ?_)
  refine l_of (s_call (wt0 rfl) (x_call' rfl rfl cl22) (missing_s tg mg n h root M v h1 hn hh _ (H0.takes [0, 1] (by decide))) ?_)
  rintro _ wq3 ⟨p1, c2, rfl, H4⟩
  replace H4 : S wq3 [Rw 3 1 p1 (missT n h M v).1.length c2 (intV (missT n h M v).1), Ob tg (.cells #[.int .i64 ((n : Int)), .int .i64 ((h : Int)), .string root, .map (some mg)] 75 (0, 0)), Mp placeV Value.string placeOk mg (M), Old w (fps [Ob tg (.cells #[.int .i64 ((n : Int)), .int .i64 ((h : Int)), .string root, .map (some mg)] 75 (0, 0)), Mp placeV Value.string placeOk mg (M)])] := H0.absorbI (new := [Rw 3 1 p1 (missT n h M v).1.length c2 (intV (missT n h M v).1), Ob tg (.cells #[.int .i64 ((n : Int)), .int .i64 ((h : Int)), .string root, .map (some mg)] 75 (0, 0)), Mp placeV Value.string placeOk mg (M)]) [0, 1] H4
  refine b_ret rfl rfl ?_
  refine l_of (s_val (v := .tuple #[.slice p1 (missT n h M v).1.length c2, .int .i64 ((missT n h M v).2)]) (wt0 rfl) rfl rfl (x_move rfl rfl) ?_)
  refine l_of (s_val (v := .slice p1 (missT n h M v).1.length c2) (wt0 rfl) rfl rfl (x_extract rfl rfl rfl) ?_)
  refine l_of (s_val (v := .int .i64 ((missT n h M v).2)) (wt0 rfl) rfl rfl (x_extract rfl rfl rfl) ?_)
  refine l_of (s_val (v := .slice p1 (missT n h M v).1.length c2) (wt0 rfl) rfl rfl (x_assign rfl rfl) ?_)
  refine l_of (s_val (v := .int .i64 ((missT n h M v).2)) (wt0 rfl) rfl rfl (x_assign rfl rfl) ?_)
  refine g_nil ?_
  refine g_then ?_
  refine g_seq ?_
  refine g_seq ?_
  refine g_region ?_
  refine l_of (s_val (v := .int .i64 ((missT n h M v).2)) (wt0 rfl) rfl rfl (x_move rfl rfl) ?_)
  refine l_of (s_val (v := .bool (!decide (((missT n h M v).2 : Int) = 0))) (wt0 rfl) rfl rfl (x_bin rfl rfl rfl b_neq) ?_)
  refine g_nil ?_
  refine g_then ?_
  by_cases hb5 : ((missT n h M v).2 : Int) = 0
  · skip
    have hvv : 0 ≤ v ∧ v ≤ (h : Int) := by rcases Decidable.em (0 ≤ v ∧ v ≤ (h : Int)) with hq | hq; exact hq; unfold missT at hb5; rw [if_neg hq] at hb5; exact absurd hb5 (by decide)
    obtain ⟨V0, rfl⟩ : ∃ V0 : Nat, v = (V0 : Int) := ⟨v.toNat, by omega⟩
    have hms : missT n h M (V0 : Int) = (missTo M V0 (countN n V0), 0) := by unfold missT; rw [if_pos hvv, Int.toNat_natCast]
    have hml := miss_len M V0 (countN n V0)
    have hcn : countN n V0 ≤ n := by unfold countN; have := Nat.div_le_self (n - 1) (2 ^ V0); omega
    skip
    refine g_cond_f rfl (nf hb5) ?_
    refine g_skip ?_
    refine g_then ?_
    refine g_seq ?_
    refine g_region ?_
    refine l_of (s_val (v := .pointer (some ⟨tg, 0, none⟩)) (wt0 rfl) rfl rfl (x_move rfl rfl) ?_)
    refine l_of (s_val (v := .pointer (some ⟨tg, 0, none⟩)) (wt0 rfl) rfl rfl (x_nilCheck rfl rfl) ?_)
    refine l_of (s_val (v := .pointer (some ⟨tg, 0, none⟩)) (wt0 rfl) rfl rfl (x_fieldAddr rfl rfl fo75_0 rfl) ?_)
    refine l_of (s_val (v := .agg #[.int .i64 ((n : Int)), .int .i64 ((h : Int))]) (wt0 rfl) rfl rfl (x_loadA H4 1 rfl rfl Tryz.underlying65 rfl sz65 rfl rfl rfl) ?_)
    refine l_of (s_val (v := .int .i64 ((V0 : Int))) (wt0 rfl) rfl rfl (x_move rfl rfl) ?_)
    refine l_of (s_call (wt0 rfl) (x_call' rfl rfl cl62) (counts_r _ _ _ (by omega) (by omega) (by omega) _) ?_)
    rintro _ wq6 ⟨rfl, H7⟩
    replace H7 : S wq6 [Rw 3 1 p1 (missT n h M (V0 : Int)).1.length c2 (intV (missT n h M (V0 : Int)).1), Ob tg (.cells #[.int .i64 ((n : Int)), .int .i64 ((h : Int)), .string root, .map (some mg)] 75 (0, 0)), Mp placeV Value.string placeOk mg (M), Old w (fps [Ob tg (.cells #[.int .i64 ((n : Int)), .int .i64 ((h : Int)), .string root, .map (some mg)] 75 (0, 0)), Mp placeV Value.string placeOk mg (M)])] := H4.absorb (new := []) H7
    refine b_ret rfl rfl ?_
    refine l_of (s_val (v := .slice p1 (missT n h M (V0 : Int)).1.length c2) (wt0 rfl) rfl rfl (x_move rfl rfl) ?_)
    refine l_of (s_val (v := .int .i64 (((missT n h M (V0 : Int)).1.length : Int))) (wt0 rfl) rfl rfl (x_lenl rfl rfl Tryz.underlying51) ?_)
    refine l_of (s_val (v := .int .i64 ((countN n V0 : Int) - ((missTo M V0 (countN n V0)).length : Int))) (wt0 rfl) rfl rfl (x_bin rfl rfl rfl (b_sub (r := (countN n V0 : Int) - ((missTo M V0 (countN n V0)).length : Int)) (by rw [hms]; exact w64 (by (show -9223372036854775808 ≤ (countN n V0 : Int) - ((missTo M V0 (countN n V0)).length : Int) ∧ (countN n V0 : Int) - ((missTo M V0 (countN n V0)).length : Int) ≤ 9223372036854775807); omega)))) ?_)
    refine l_of (s_val (v := .int .i64 ((countN n V0 : Int) - ((missTo M V0 (countN n V0)).length : Int))) (wt0 rfl) rfl rfl (x_assign rfl rfl) ?_)
    refine l_of (s_val (v := .int .i64 0) (wt0 rfl) rfl rfl (x_assign rfl rfl) ?_)
    refine g_nil ?_
    refine g_then ?_
    refine g_weak [(4, .int .i64 ((countN n V0 : Int) - ((missTo M V0 (countN n V0)).length : Int))), (5, .int .i64 0)] ⟨rfl, rfl, trivial⟩ ?_
    refine g_ret ?_
    refine fin_ret [.tmp 4, .tmp 5] [.int .i64 ((countN n V0 : Int) - ((missTo M V0 (countN n V0)).length : Int)), .int .i64 0] rfl ⟨rfl, rfl, trivial⟩ ?_
    exact ⟨by unfold knownT; rw [if_pos hvv, Int.toNat_natCast]; rfl, H7.takes [1, 2, 3] (by decide)⟩
  · skip
    refine g_cond_t rfl (nt hb5) ?_
    refine g_seq ?_
    refine g_region ?_
    refine l_of (s_val (v := .int .i64 ((missT n h M v).2)) (wt0 rfl) rfl rfl (x_move rfl rfl) ?_)
    refine l_of (s_val (v := .int .i64 0) (wt0 rfl) rfl rfl (x_assign rfl rfl) ?_)
    refine l_of (s_val (v := .int .i64 ((missT n h M v).2)) (wt0 rfl) rfl rfl (x_assign rfl rfl) ?_)
    refine g_nil ?_
    refine g_then ?_
    refine g_weak [(4, .int .i64 0), (5, .int .i64 ((missT n h M v).2))] ⟨rfl, rfl, trivial⟩ ?_
    refine g_ret ?_
    refine g_then_ret ?_
    refine fin_ret [.tmp 4, .tmp 5] [.int .i64 0, .int .i64 ((missT n h M v).2)] rfl ⟨rfl, rfl, trivial⟩ ?_
    have hvv : ¬ (0 ≤ v ∧ v ≤ (h : Int)) := fun hq => hb5 (by unfold missT; rw [if_pos hq])
    have hm7 : missT n h M v = ([], 7) := by unfold missT; rw [if_neg hvv]
    have hk7 : knownT n h M v = (0, 7) := by unfold knownT; rw [if_neg hvv]
    exact ⟨by rw [hm7, hk7]; rfl, H4.takes [1, 2, 3] (by decide)⟩
end Go.Proofs.YtlajgickimgigaaGreat
