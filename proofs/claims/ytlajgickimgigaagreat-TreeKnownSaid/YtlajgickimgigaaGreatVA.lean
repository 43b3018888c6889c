import Derived.Test.YtlajgickimgigaaGreatUP
import Derived.Test.YtlajgickimgigaaGreatFe
set_option linter.unusedSimpArgs false
set_option linter.unusedVariables false
namespace Go.Proofs.YtlajgickimgigaaGreat
open Go.RowKit

theorem fo75_0 : foO Tryz.prog 75 0 = some 0 := by kernel_rfl
theorem fo75_1 : foO Tryz.prog 75 1 = some 2 := by kernel_rfl
theorem fo75_2 : foO Tryz.prog 75 2 = some 3 := by kernel_rfl
theorem look_S (o : Option ByteArray) : (o.map Value.string).getD (.string ⟨#[]⟩) = .string (o.getD ⟨#[]⟩) := by cases o <;> rfl
theorem place_wideR : (match Tryz.prog.underlying 79 with | some (.array _ _) | some (.struct _) => true | _ => false) = true := by rw [Tryz.underlying79]
set_option maxRecDepth 100000 in
theorem place_lawR : Go.WideMaps.KeyLaw Tryz.prog 79 := deep_law_laid laid_out (m := 2) (by omega) (of_decide_eq_true (by kernel_rfl)) (by kernel_rfl) place_wideR
theorem cells_102 : Tryz.prog.cellsOf 79 = 2 := by kernel_rfl
theorem place_keyR {x : Nat × Nat} (h : placeOk x) : ∃ l, keyOf Tryz.prog 79 (placeV x) = some l := by
  have h1 : ∀ d (n : Nat), n ≤ 1099511627776 → Tryz.prog.keyLits (d + 1) 3 [.int .i64 (n : Int)] = some [.int .i64 (n : Int)] := fun d n hn => by
    simp [Program.keyLits, Tryz.underlying3, place_lit hn]
  obtain ⟨s, hs⟩ := size_s
  have hk : Tryz.prog.keyType 79 = true := by kernel_rfl
  unfold keyOf
  rw [Tryz.underlying79]
  simp only [hk, Bool.true_and]
  have hf : (placeV x).formed Tryz.prog 79 = true := by simp [placeV, Value.formed, Tryz.underlying79, cells_102]
  rw [if_pos hf, hs]
  simp [Program.keyLits, Tryz.underlying79, cells_102, cells_3, placeV, Value.cells, h1 _ _ h.1, h1 _ _ h.2, place_lit h.1, place_lit h.2]
theorem placeR : MapTy Tryz.prog 48 79 9 placeV placeOk := ⟨Tryz.underlying48, .of_law place_lawR, fun x hx => place_keyR hx, fun x y _ _ h => placeV_inj h⟩
/-- What the tree's get finds. -/
def getT (n : Nat) (M : PM) (v i : Nat) : Option ByteArray := if countN n v ≤ i then some (zeroS v) else M (v, i)
set_option maxRecDepth 20000 in
set_option maxHeartbeats 4000000 in
set_option maxRecDepth 20000 in
set_option maxHeartbeats 4000000 in
theorem rootOf_s (tg mg n h : Nat) (root : ByteArray) (M : PM) (w : World) (HS : S w [Ob tg (.cells #[.int .i64 ((n : Int)), .int .i64 ((h : Int)), .string root, .map (some mg)] 75 (0, 0)), Mp placeV Value.string placeOk mg (M)]) : Calls Tryz.prog 11 #[.pointer (some ⟨tg, 0, none⟩)] w fun e w' => e = .returned (.string root) ∧ S w' ([Ob tg (.cells #[.int .i64 ((n : Int)), .int .i64 ((h : Int)), .string root, .map (some mg)] 75 (0, 0)), Mp placeV Value.string placeOk mg (M)] ++ [Old w (fps [Ob tg (.cells #[.int .i64 ((n : Int)), .int .i64 ((h : Int)), .string root, .map (some mg)] 75 (0, 0)), Mp placeV Value.string placeOk mg (M)])]) := by
  have H00 := HS.beginI
  have H0 : S w ([Ob tg (.cells #[.int .i64 ((n : Int)), .int .i64 ((h : Int)), .string root, .map (some mg)] 75 (0, 0)), Mp placeV Value.string placeOk mg (M), Old w (fps [Ob tg (.cells #[.int .i64 ((n : Int)), .int .i64 ((h : Int)), .string root, .map (some mg)] 75 (0, 0)), Mp placeV Value.string placeOk mg (M)])]) := H00
  refine enter 9 Tryz.func11 rfl rfl rfl ?_
  refine g_weak [(0, .pointer (some ⟨tg, 0, none⟩))] ⟨rfl, trivial⟩ ?_
  refine g_seq ?_
  refine g_region ?_
  refine l_of (s_val (v := .string (⟨#[]⟩)) (wt0 rfl) rfl rfl (x_assign rfl rfl) ?_)
  refine g_nil ?_
  refine g_then ?_
  refine g_seq ?_
  refine g_seq ?_
  refine g_region ?_
  refine l_of (s_val (v := .pointer (some ⟨tg, 0, none⟩)) (wt0 rfl) rfl rfl (x_move rfl rfl) ?_)
  refine l_of (s_val (v := .bool false) (wt0 rfl) rfl rfl (x_bin rfl rfl rfl (b_eqN (r := false) Tryz.underlying29 rfl)) ?_)
  refine g_nil ?_
  refine g_then ?_
  refine g_cond_f rfl rfl ?_
  refine g_skip ?_
  refine g_then ?_
  refine g_seq ?_
  refine g_region ?_
  refine l_of (s_val (v := .pointer (some ⟨tg, 0, none⟩)) (wt0 rfl) rfl rfl (x_move rfl rfl) ?_)
  refine l_of (s_val (v := .pointer (some ⟨tg, 0, none⟩)) (wt0 rfl) rfl rfl (x_nilCheck rfl rfl) ?_)
  refine l_of (s_val (v := .pointer (some ⟨tg, 2, none⟩)) (wt0 rfl) rfl rfl (x_fieldAddr rfl rfl fo75_1 rfl) ?_)
  refine l_of (s_val (v := .string root) (wt0 rfl) rfl rfl (x_load1 H0 0 rfl rfl Tryz.underlying9 rfl rfl rfl) ?_)
  refine l_of (s_val (v := .string root) (wt0 rfl) rfl rfl (x_assign rfl rfl) ?_)
  refine g_nil ?_
  refine g_then ?_
  refine g_ret ?_
  refine fin_ret [.tmp 2] [.string root] rfl ⟨rfl, trivial⟩ ?_
  exact ⟨rfl, H0.takes [0, 1, 2] (by decide)⟩
set_option maxRecDepth 20000 in
set_option maxHeartbeats 4000000 in
set_option maxRecDepth 20000 in
set_option maxHeartbeats 4000000 in
theorem leavesOf_s (tg mg n h : Nat) (root : ByteArray) (M : PM) (w : World) (HS : S w [Ob tg (.cells #[.int .i64 ((n : Int)), .int .i64 ((h : Int)), .string root, .map (some mg)] 75 (0, 0)), Mp placeV Value.string placeOk mg (M)]) : Calls Tryz.prog 12 #[.pointer (some ⟨tg, 0, none⟩)] w fun e w' => e = .returned (.int .i64 (n : Int)) ∧ S w' ([Ob tg (.cells #[.int .i64 ((n : Int)), .int .i64 ((h : Int)), .string root, .map (some mg)] 75 (0, 0)), Mp placeV Value.string placeOk mg (M)] ++ [Old w (fps [Ob tg (.cells #[.int .i64 ((n : Int)), .int .i64 ((h : Int)), .string root, .map (some mg)] 75 (0, 0)), Mp placeV Value.string placeOk mg (M)])]) := by
  have H00 := HS.beginI
  have H0 : S w ([Ob tg (.cells #[.int .i64 ((n : Int)), .int .i64 ((h : Int)), .string root, .map (some mg)] 75 (0, 0)), Mp placeV Value.string placeOk mg (M), Old w (fps [Ob tg (.cells #[.int .i64 ((n : Int)), .int .i64 ((h : Int)), .string root, .map (some mg)] 75 (0, 0)), Mp placeV Value.string placeOk mg (M)])]) := H00
  refine enter 10 Tryz.func12 rfl rfl rfl ?_
  refine g_weak [(0, .pointer (some ⟨tg, 0, none⟩))] ⟨rfl, trivial⟩ ?_
  refine g_seq ?_
  refine g_region ?_
  refine l_of (s_val (v := .int .i64 0) (wt0 rfl) rfl rfl (x_assign rfl rfl) ?_)
  refine g_nil ?_
  refine g_then ?_
  refine g_seq ?_
  refine g_seq ?_
  refine g_region ?_
  refine l_of (s_val (v := .pointer (some ⟨tg, 0, none⟩)) (wt0 rfl) rfl rfl (x_move rfl rfl) ?_)
  refine l_of (s_val (v := .bool false) (wt0 rfl) rfl rfl (x_bin rfl rfl rfl (b_eqN (r := false) Tryz.underlying29 rfl)) ?_)
  refine g_nil ?_
  refine g_then ?_
  refine g_cond_f rfl rfl ?_
  refine g_skip ?_
  refine g_then ?_
  refine g_seq ?_
  refine g_region ?_
  refine l_of (s_val (v := .pointer (some ⟨tg, 0, none⟩)) (wt0 rfl) rfl rfl (x_move rfl rfl) ?_)
  refine l_of (s_val (v := .pointer (some ⟨tg, 0, none⟩)) (wt0 rfl) rfl rfl (x_nilCheck rfl rfl) ?_)
  refine l_of (s_val (v := .pointer (some ⟨tg, 0, none⟩)) (wt0 rfl) rfl rfl (x_fieldAddr rfl rfl fo75_0 rfl) ?_)
  refine l_of (s_val (v := .pointer (some ⟨tg, 0, none⟩)) (wt0 rfl) rfl rfl (x_fieldAddr rfl rfl fo65_0 rfl) ?_)
  refine l_of (s_val (v := .int .i64 ((n : Int))) (wt0 rfl) rfl rfl (x_load1 H0 0 rfl rfl Tryz.underlying3 rfl rfl rfl) ?_)
  refine l_of (s_val (v := .int .i64 ((n : Int))) (wt0 rfl) rfl rfl (x_assign rfl rfl) ?_)
  refine g_nil ?_
  refine g_then ?_
  refine g_ret ?_
  refine fin_ret [.tmp 2] [.int .i64 ((n : Int))] rfl ⟨rfl, trivial⟩ ?_
  exact ⟨rfl, H0.takes [0, 1, 2] (by decide)⟩
set_option maxRecDepth 20000 in
set_option maxHeartbeats 4000000 in
set_option maxRecDepth 20000 in
set_option maxHeartbeats 4000000 in
theorem get_s (tg mg n h : Nat) (root : ByteArray) (M : PM) (v i : Nat) (h1 : 1 ≤ n) (hn : n ≤ 1099511627776) (hv : v ≤ 60) (hi : i ≤ 1099511627776) (w : World) (HS : S w [Ob tg (.cells #[.int .i64 ((n : Int)), .int .i64 ((h : Int)), .string root, .map (some mg)] 75 (0, 0)), Mp placeV Value.string placeOk mg (M)]) : Calls Tryz.prog 56 #[.pointer (some ⟨tg, 0, none⟩), .int .i64 ((v : Int)), .int .i64 ((i : Int))] w fun e w' => e = .returned (.tuple #[.string ((getT n M v i).getD ⟨#[]⟩), .bool (getT n M v i).isSome]) ∧ S w' ([Ob tg (.cells #[.int .i64 ((n : Int)), .int .i64 ((h : Int)), .string root, .map (some mg)] 75 (0, 0)), Mp placeV Value.string placeOk mg (M)] ++ [Old w (fps [Ob tg (.cells #[.int .i64 ((n : Int)), .int .i64 ((h : Int)), .string root, .map (some mg)] 75 (0, 0)), Mp placeV Value.string placeOk mg (M)])]) := by
  have H00 := HS.beginI
  have H0 : S w ([Ob tg (.cells #[.int .i64 ((n : Int)), .int .i64 ((h : Int)), .string root, .map (some mg)] 75 (0, 0)), Mp placeV Value.string placeOk mg (M), Old w (fps [Ob tg (.cells #[.int .i64 ((n : Int)), .int .i64 ((h : Int)), .string root, .map (some mg)] 75 (0, 0)), Mp placeV Value.string placeOk mg (M)])]) := H00
  refine enter 33 Tryz.func56 rfl rfl rfl ?_
  refine g_weak [(0, .pointer (some ⟨tg, 0, none⟩)), (1, .int .i64 ((v : Int))), (2, .int .i64 ((i : Int)))] ⟨rfl, rfl, rfl, trivial⟩ ?_
  refine g_seq ?_
  refine g_region ?_
  refine l_of (s_val (v := .string (⟨#[]⟩)) (wt0 rfl) rfl rfl (x_assign rfl rfl) ?_)
  refine l_of (s_val (v := .bool false) (wt0 rfl) rfl rfl (x_assign rfl rfl) ?_)
  refine g_nil ?_
  refine g_then ?_
  refine g_seq ?_
  refine g_seq ?_
  refine g_region ?_
  refine l_of (s_val (v := .int .i64 ((i : Int))) (wt0 rfl) rfl rfl (x_move rfl rfl) ?_)
  refine l_of (s_val (v := .pointer (some ⟨tg, 0, none⟩)) (wt0 rfl) rfl rfl (x_move rfl rfl) ?_)
  refine l_of (s_val (v := .pointer (some ⟨tg, 0, none⟩)) (wt0 rfl) rfl rfl (x_nilCheck rfl rfl) ?_)
  refine l_of (s_val (v := .pointer (some ⟨tg, 0, none⟩)) (wt0 rfl) rfl rfl (x_fieldAddr rfl rfl fo75_0 rfl) ?_)
  refine l_of (s_val (v := .agg #[.int .i64 ((n : Int)), .int .i64 ((h : Int))]) (wt0 rfl) rfl rfl (x_loadA H0 0 rfl rfl Tryz.underlying65 rfl sz65 rfl rfl rfl) ?_)
  refine l_of (s_val (v := .int .i64 ((v : Int))) (wt0 rfl) rfl rfl (x_move rfl rfl) ?_)
  refine l_of (s_call (wt0 rfl) (x_call' rfl rfl cl62) (counts_r _ _ _ (by omega) (by omega) (by omega) _) ?_)
  rintro _ wq1 ⟨rfl, H2⟩
  replace H2 : S wq1 [Ob tg (.cells #[.int .i64 ((n : Int)), .int .i64 ((h : Int)), .string root, .map (some mg)] 75 (0, 0)), Mp placeV Value.string placeOk mg (M), Old w (fps [Ob tg (.cells #[.int .i64 ((n : Int)), .int .i64 ((h : Int)), .string root, .map (some mg)] 75 (0, 0)), Mp placeV Value.string placeOk mg (M)])] := H0.absorb (new := []) H2
  refine b_ret rfl rfl ?_
  refine l_of (s_val (v := .bool (decide ((((countN n v : Nat) : Int) : Int) ≤ (i : Int)))) (wt0 rfl) rfl rfl (x_bin rfl rfl rfl b_geq) ?_)
  refine g_nil ?_
  refine g_then ?_
  by_cases hb3 : (((countN n v : Nat) : Int) : Int) ≤ (i : Int)
  · skip
    refine g_cond_t rfl (decide_eq_true hb3) ?_
    refine g_seq ?_
    refine g_region ?_
    refine l_of (s_val (v := .int .i64 ((v : Int))) (wt0 rfl) rfl rfl (x_move rfl rfl) ?_)
    refine l_of (s_call (wt0 rfl) (x_call' rfl rfl cl71) (zero_s _ (by omega) _) ?_)
    rintro _ wq4 ⟨rfl, H5⟩
    replace H5 : S wq4 [Ob tg (.cells #[.int .i64 ((n : Int)), .int .i64 ((h : Int)), .string root, .map (some mg)] 75 (0, 0)), Mp placeV Value.string placeOk mg (M), Old w (fps [Ob tg (.cells #[.int .i64 ((n : Int)), .int .i64 ((h : Int)), .string root, .map (some mg)] 75 (0, 0)), Mp placeV Value.string placeOk mg (M)])] := H2.absorb (new := []) H5
    refine b_ret rfl rfl ?_
    refine l_of (s_val (v := .string ((zeroS v))) (wt0 rfl) rfl rfl (x_assign rfl rfl) ?_)
    refine l_of (s_val (v := .bool true) (wt0 rfl) rfl rfl (x_assign rfl rfl) ?_)
    refine g_nil ?_
    refine g_then ?_
    refine g_weak [(6, .string ((zeroS v))), (7, .bool true)] ⟨rfl, rfl, trivial⟩ ?_
    refine g_ret ?_
    refine g_then_ret ?_
    refine fin_ret [.tmp 6, .tmp 7] [.string ((zeroS v)), .bool true] rfl ⟨rfl, rfl, trivial⟩ ?_
    exact ⟨by unfold getT; rw [if_pos (by omega)]; rfl, H5.takes [0, 1, 2] (by decide)⟩
  · skip
    refine g_cond_f rfl (decide_eq_false hb3) ?_
    refine g_skip ?_
    refine g_then ?_
    refine g_seq ?_
    refine g_region ?_
    refine l_of (s_val (v := .pointer (some ⟨tg, 0, none⟩)) (wt0 rfl) rfl rfl (x_move rfl rfl) ?_)
    refine l_of (s_val (v := .pointer (some ⟨tg, 0, none⟩)) (wt0 rfl) rfl rfl (x_nilCheck rfl rfl) ?_)
    refine l_of (s_val (v := .pointer (some ⟨tg, 3, none⟩)) (wt0 rfl) rfl rfl (x_fieldAddr rfl rfl fo75_2 rfl) ?_)
    refine l_of (s_val (v := .map (some mg)) (wt0 rfl) rfl rfl (x_load1 H2 0 rfl rfl Tryz.underlying68 rfl rfl rfl) ?_)
    refine l_of (s_val (v := .int .i64 ((v : Int))) (wt0 rfl) rfl rfl (x_move rfl rfl) ?_)
    refine l_of (s_val (v := .int .i64 ((i : Int))) (wt0 rfl) rfl rfl (x_move rfl rfl) ?_)
    refine l_of (s_val (v := .agg #[.int .i64 ((v : Int)), .int .i64 ((i : Int))]) (wt0 rfl) rfl rfl (x_build (vs := [.int .i64 ((v : Int)), .int .i64 ((i : Int))]) rfl rfl (cells := #[.int .i64 ((v : Int)), .int .i64 ((i : Int))]) (by kernel_rfl)) ?_)
    refine l_of (s_val (v := .tuple #[.string (((M (v, i)).getD ⟨#[]⟩)), .bool ((M (v, i)).isSome)]) (wt0 rfl) rfl rfl (ex_cast (x_lookup (x := (v, i)) placeT H2 1 rfl rfl rfl rfl ⟨by (show _ ≤ 1099511627776); omega, by (show _ ≤ 1099511627776); omega⟩ ze9) (by rw [look_S])) ?_)
    refine l_of (s_val (v := .tuple #[.string (((M (v, i)).getD ⟨#[]⟩)), .bool ((M (v, i)).isSome)]) (wt0 rfl) rfl rfl (x_move rfl rfl) ?_)
    refine l_of (s_val (v := .string (((M (v, i)).getD ⟨#[]⟩))) (wt0 rfl) rfl rfl (x_extract rfl rfl rfl) ?_)
    refine l_of (s_val (v := .bool ((M (v, i)).isSome)) (wt0 rfl) rfl rfl (x_extract rfl rfl rfl) ?_)
    refine l_of (s_val (v := .string (((M (v, i)).getD ⟨#[]⟩))) (wt0 rfl) rfl rfl (x_assign rfl rfl) ?_)
    refine l_of (s_val (v := .bool ((M (v, i)).isSome)) (wt0 rfl) rfl rfl (x_assign rfl rfl) ?_)
    refine g_nil ?_
    refine g_then ?_
    refine g_weak [(8, .string (((M (v, i)).getD ⟨#[]⟩))), (9, .bool ((M (v, i)).isSome))] ⟨rfl, rfl, trivial⟩ ?_
    refine g_seq ?_
    refine g_region ?_
    refine l_of (s_val (v := .string (((M (v, i)).getD ⟨#[]⟩))) (wt0 rfl) rfl rfl (x_move rfl rfl) ?_)
    refine l_of (s_val (v := .bool ((M (v, i)).isSome)) (wt0 rfl) rfl rfl (x_move rfl rfl) ?_)
    refine l_of (s_val (v := .string (((M (v, i)).getD ⟨#[]⟩))) (wt0 rfl) rfl rfl (x_assign rfl rfl) ?_)
    refine l_of (s_val (v := .bool ((M (v, i)).isSome)) (wt0 rfl) rfl rfl (x_assign rfl rfl) ?_)
    refine g_nil ?_
    refine g_then ?_
    refine g_ret ?_
    refine fin_ret [.tmp 6, .tmp 7] [.string (((M (v, i)).getD ⟨#[]⟩)), .bool ((M (v, i)).isSome)] rfl ⟨rfl, rfl, trivial⟩ ?_
    exact ⟨by unfold getT; rw [if_neg (by omega)]; rfl, H2.takes [0, 1, 2] (by decide)⟩
end Go.Proofs.YtlajgickimgigaaGreat
