import Derived.Test.YtlajgickimgigaaTW
set_option linter.unusedSimpArgs false
set_option linter.unusedVariables false
namespace Go.Proofs.Ytlajgickimgigaa
open Go.RowKit

theorem cl20 : callable Try.prog 20 = true := by kernel_rfl
theorem cl26 : callable Try.prog 26 = true := by kernel_rfl
theorem zeroB_size : zeroB.size = 32 := zeroS_size 0
set_option maxRecDepth 20000 in
set_option maxHeartbeats 4000000 in
theorem awake_s   (w : World) : Calls Try.prog 10 #[] w fun e w' => e = .returned (.bool true) ∧ S w' [Old w no] := by
  have H0 := S.old w
  refine enter 68 Try.func10 rfl rfl rfl ?_
  refine g_weak [] trivial ?_
  refine g_seq ?_
  refine g_region ?_
  refine l_of (s_val (v := .bool false) (wt0 rfl) rfl rfl (x_assign rfl rfl) ?_)
  refine g_nil ?_
  refine g_then ?_
  refine g_seq ?_
  refine g_region ?_
  refine l_of (s_call (wt0 rfl) (x_call' rfl rfl cl42) (sum_h _ (by decide) _) ?_)
  rintro _ wq1 ⟨rfl, H2⟩
  replace H2 : S wq1 [Old w no] := H0.absorb (new := []) H2
  refine b_ret rfl rfl ?_
  refine l_of (s_call (wt0 rfl) (x_call' rfl rfl cl42) (sum_h _ (by decide) _) ?_)
  rintro _ wq3 ⟨rfl, H4⟩
  replace H4 : S wq3 [Old w no] := H2.absorb (new := []) H4
  refine b_ret rfl rfl ?_
  refine l_of (s_call (wt0 rfl) (x_call' rfl rfl cl42) (sum_h _ (by decide) _) ?_)
  rintro _ wq5 ⟨rfl, H6⟩
  replace H6 : S wq5 [Old w no] := H4.absorb (new := []) H6
  refine b_ret rfl rfl ?_
  refine l_of (s_buildSlice H6 (wt0 rfl) rfl rfl rfl (vs := [.string ((sumS (⟨#[97]⟩ : ByteArray))), .string ((sumS (⟨#[98]⟩ : ByteArray))), .string ((sumS (⟨#[99]⟩ : ByteArray)))]) rfl Try.underlying22 sz9 ze9 rfl rfl (cells := #[.string ((sumS (⟨#[97]⟩ : ByteArray))), .string ((sumS (⟨#[98]⟩ : ByteArray))), .string ((sumS (⟨#[99]⟩ : ByteArray)))]) (by kernel_rfl) ?_)
  intro g7 wq8 H9
  refine l_of (s_val (v := .slice (some ⟨g7, 0, none⟩) (3) (3)) (wt0 rfl) rfl rfl (x_assign rfl rfl) ?_)
  refine g_nil ?_
  refine g_then ?_
  refine g_seq ?_
  refine g_region ?_
  refine l_of (s_val (v := .slice (some ⟨g7, 0, none⟩) (3) (3)) (wt0 rfl) rfl rfl (x_move rfl rfl) ?_)
  have hroot := root_s [(sumS ⟨#[97]⟩), (sumS ⟨#[98]⟩), (sumS ⟨#[99]⟩)] _ 3 3 rfl (by omega) wq8 (⟨rfl, Nat.le_refl _, fun _ => ⟨_, rfl, news_ob H9 (j0 := 0) rfl⟩⟩)
  rw [root3 (sumS_size _) (sumS_size _) (sumS_size _)] at hroot
  refine l_of (s_call (wt0 rfl) (x_call' rfl rfl cl20) hroot ?_)
  rintro _ wq10 ⟨rfl, H11⟩
  replace H11 : S wq10 [Ob g7 (.cells #[.string ((sumS (⟨#[97]⟩ : ByteArray))), .string ((sumS (⟨#[98]⟩ : ByteArray))), .string ((sumS (⟨#[99]⟩ : ByteArray)))] 9 (0, 0)), Old w no] := H9.absorb (new := []) H11
  refine b_ret rfl rfl ?_
  refine l_of (s_val (v := .tuple #[.string ((pairS (pairS (sumS ⟨#[97]⟩) (sumS ⟨#[98]⟩)) (pairS (sumS ⟨#[99]⟩) zeroB))), .int .i64 0]) (wt0 rfl) rfl rfl (x_move rfl rfl) ?_)
  refine l_of (s_val (v := .string ((pairS (pairS (sumS ⟨#[97]⟩) (sumS ⟨#[98]⟩)) (pairS (sumS ⟨#[99]⟩) zeroB)))) (wt0 rfl) rfl rfl (x_extract rfl rfl rfl) ?_)
  refine l_of (s_val (v := .int .i64 0) (wt0 rfl) rfl rfl (x_extract rfl rfl rfl) ?_)
  refine l_of (s_val (v := .string ((pairS (pairS (sumS ⟨#[97]⟩) (sumS ⟨#[98]⟩)) (pairS (sumS ⟨#[99]⟩) zeroB)))) (wt0 rfl) rfl rfl (x_assign rfl rfl) ?_)
  refine l_of (s_val (v := .int .i64 0) (wt0 rfl) rfl rfl (x_assign rfl rfl) ?_)
  refine g_nil ?_
  refine g_then ?_
  refine g_seq ?_
  refine g_region ?_
  refine l_of (s_val (v := .slice (some ⟨g7, 0, none⟩) (3) (3)) (wt0 rfl) rfl rfl (x_move rfl rfl) ?_)
  have hunc := uncles_t [(sumS ⟨#[97]⟩), (sumS ⟨#[98]⟩), (sumS ⟨#[99]⟩)] _ 3 3 rfl 0 2 (by omega) wq10 (⟨rfl, Nat.le_refl _, fun _ => ⟨_, rfl, news_ob H11 (j0 := 0) rfl⟩⟩)
  rw [uncles3 (sumS_size _) (sumS_size _) (sumS_size _)] at hunc
  refine l_of (s_call (wt0 rfl) (x_call' rfl rfl cl26) hunc ?_)
  rintro _ wq14 ⟨p12, c13, rfl, H15⟩
  replace H15 : S wq14 [Rw 9 1 p12 2 c13 (stV [zeroB, pairS (sumS ⟨#[97]⟩) (sumS ⟨#[98]⟩)]), Ob g7 (.cells #[.string ((sumS (⟨#[97]⟩ : ByteArray))), .string ((sumS (⟨#[98]⟩ : ByteArray))), .string ((sumS (⟨#[99]⟩ : ByteArray)))] 9 (0, 0)), Old w no] := H11.absorb (new := [Rw 9 1 p12 2 c13 (stV [zeroB, pairS (sumS ⟨#[97]⟩) (sumS ⟨#[98]⟩)])]) H15
  refine b_ret rfl rfl ?_
  refine l_of (s_val (v := .tuple #[.slice p12 2 c13, .int .i64 0]) (wt0 rfl) rfl rfl (x_move rfl rfl) ?_)
  refine l_of (s_val (v := .slice p12 2 c13) (wt0 rfl) rfl rfl (x_extract rfl rfl rfl) ?_)
  refine l_of (s_val (v := .int .i64 0) (wt0 rfl) rfl rfl (x_extract rfl rfl rfl) ?_)
  refine l_of (s_val (v := .slice p12 2 c13) (wt0 rfl) rfl rfl (x_assign rfl rfl) ?_)
  refine l_of (s_val (v := .int .i64 0) (wt0 rfl) rfl rfl (x_assign rfl rfl) ?_)
  refine g_nil ?_
  refine g_then ?_
  refine g_weak [(1, .slice (some ⟨g7, 0, none⟩) (3) (3)), (2, .string ((pairS (pairS (sumS ⟨#[97]⟩) (sumS ⟨#[98]⟩)) (pairS (sumS ⟨#[99]⟩) zeroB)))), (3, .int .i64 0), (4, .slice p12 2 c13), (5, .int .i64 0)] ⟨rfl, rfl, rfl, rfl, rfl, trivial⟩ ?_
  refine g_seq ?_
  refine g_quiet (by kernel_rfl) (by kernel_rfl) H15 ?_
  refine q_val (v := .int .i64 0) (wt0 rfl) rfl rfl (fun wx H => x_move rfl rfl) ?_
  refine q_val (v := .bool (decide ((0 : Int) = 0))) (wt0 rfl) rfl rfl (fun wx H => x_bin rfl rfl rfl b_eql) ?_
  refine q_val (v := .bool (decide ((0 : Int) = 0))) (wt0 rfl) rfl rfl (fun wx H => x_move rfl rfl) ?_
  refine q_val (v := .int .i64 0) (wt1 rfl rfl rfl rfl (decide_eq_true rfl)) rfl rfl (fun wx H => x_move rfl rfl) ?_
  refine q_val (v := .bool (decide ((0 : Int) = 0))) (wt1 rfl rfl rfl rfl (decide_eq_true rfl)) rfl rfl (fun wx H => x_bin rfl rfl rfl b_eql) ?_
  refine q_val (v := .bool (decide ((0 : Int) = 0))) (wt0 rfl) rfl rfl (fun wx H => x_pick_t rfl rfl (decide_eq_true rfl) rfl) ?_
  refine q_val (v := .bool (decide ((0 : Int) = 0))) (wt0 rfl) rfl rfl (fun wx H => x_move rfl rfl) ?_
  refine q_val (v := .string ((pairS (pairS (sumS ⟨#[97]⟩) (sumS ⟨#[98]⟩)) (pairS (sumS ⟨#[99]⟩) zeroB)))) (wt1 rfl rfl rfl rfl (decide_eq_true rfl)) rfl rfl (fun wx H => x_move rfl rfl) ?_
  refine q_val (v := .slice (some ⟨g7, 0, none⟩) (3) (3)) (wt1 rfl rfl rfl rfl (decide_eq_true rfl)) rfl rfl (fun wx H => x_move rfl rfl) ?_
  refine q_val (v := .pointer (some ⟨g7, 0, none⟩)) (wt1 rfl rfl rfl rfl (decide_eq_true rfl)) rfl rfl (fun wx H => x_indexAddr 0 rfl rfl rfl Try.underlying22 sz9 (by omega) (off' := 0) rfl) ?_
  refine q_val (v := .string ((sumS (⟨#[97]⟩ : ByteArray)))) (wt1 rfl rfl rfl rfl (decide_eq_true rfl)) rfl rfl (fun wx H => x_load1 H 1 rfl rfl Try.underlying9 rfl rfl rfl) ?_
  refine q_val (v := .slice (some ⟨g7, 0, none⟩) (3) (3)) (wt1 rfl rfl rfl rfl (decide_eq_true rfl)) rfl rfl (fun wx H => x_move rfl rfl) ?_
  refine q_val (v := .pointer (some ⟨g7, 1, none⟩)) (wt1 rfl rfl rfl rfl (decide_eq_true rfl)) rfl rfl (fun wx H => x_indexAddr 1 rfl rfl rfl Try.underlying22 sz9 (by omega) (off' := 1) rfl) ?_
  refine q_val (v := .string ((sumS (⟨#[98]⟩ : ByteArray)))) (wt1 rfl rfl rfl rfl (decide_eq_true rfl)) rfl rfl (fun wx H => x_load1 H 1 rfl rfl Try.underlying9 rfl rfl rfl) ?_
  refine q_call (wt1 rfl rfl rfl rfl (decide_eq_true rfl)) rfl rfl (fun wx H => x_call' rfl rfl cl43) (fun wx H => (pair_h _ _ (by simp only [sumS_size, pairS_size, zeroB_size]; omega) _).mono (by rintro _ _ ⟨rfl, h⟩; exact ⟨rfl, H.absorb (new := []) h⟩)) ?_
  refine q_val (v := .slice (some ⟨g7, 0, none⟩) (3) (3)) (wt1 rfl rfl rfl rfl (decide_eq_true rfl)) rfl rfl (fun wx H => x_move rfl rfl) ?_
  refine q_val (v := .pointer (some ⟨g7, 2, none⟩)) (wt1 rfl rfl rfl rfl (decide_eq_true rfl)) rfl rfl (fun wx H => x_indexAddr 2 rfl rfl rfl Try.underlying22 sz9 (by omega) (off' := 2) rfl) ?_
  refine q_val (v := .string ((sumS (⟨#[99]⟩ : ByteArray)))) (wt1 rfl rfl rfl rfl (decide_eq_true rfl)) rfl rfl (fun wx H => x_load1 H 1 rfl rfl Try.underlying9 rfl rfl rfl) ?_
  refine q_call (wt1 rfl rfl rfl rfl (decide_eq_true rfl)) rfl rfl (fun wx H => x_call' rfl rfl cl44) (fun wx H => (zero_h _).mono (by rintro _ _ ⟨rfl, h⟩; exact ⟨rfl, H.absorb (new := []) h⟩)) ?_
  refine q_call (wt1 rfl rfl rfl rfl (decide_eq_true rfl)) rfl rfl (fun wx H => x_call' rfl rfl cl43) (fun wx H => (pair_h _ _ (by simp only [sumS_size, pairS_size, zeroB_size]; omega) _).mono (by rintro _ _ ⟨rfl, h⟩; exact ⟨rfl, H.absorb (new := []) h⟩)) ?_
  refine q_call (wt1 rfl rfl rfl rfl (decide_eq_true rfl)) rfl rfl (fun wx H => x_call' rfl rfl cl43) (fun wx H => (pair_h _ _ (by simp only [sumS_size, pairS_size, zeroB_size]; omega) _).mono (by rintro _ _ ⟨rfl, h⟩; exact ⟨rfl, H.absorb (new := []) h⟩)) ?_
  refine q_val (v := .bool (decide ((pairS (pairS (sumS ⟨#[97]⟩) (sumS ⟨#[98]⟩)) (pairS (sumS ⟨#[99]⟩) zeroB)) = (pairS (pairS (sumS (⟨#[97]⟩ : ByteArray)) (sumS (⟨#[98]⟩ : ByteArray))) (pairS (sumS (⟨#[99]⟩ : ByteArray)) zeroB))))) (wt1 rfl rfl rfl rfl (decide_eq_true rfl)) rfl rfl (fun wx H => x_bin rfl rfl rfl b_eqs) ?_
  refine q_val (v := .bool (decide ((pairS (pairS (sumS ⟨#[97]⟩) (sumS ⟨#[98]⟩)) (pairS (sumS ⟨#[99]⟩) zeroB)) = (pairS (pairS (sumS (⟨#[97]⟩ : ByteArray)) (sumS (⟨#[98]⟩ : ByteArray))) (pairS (sumS (⟨#[99]⟩ : ByteArray)) zeroB))))) (wt0 rfl) rfl rfl (fun wx H => x_pick_t rfl rfl (decide_eq_true rfl) rfl) ?_
  refine q_val (v := .bool (decide ((pairS (pairS (sumS ⟨#[97]⟩) (sumS ⟨#[98]⟩)) (pairS (sumS ⟨#[99]⟩) zeroB)) = (pairS (pairS (sumS (⟨#[97]⟩ : ByteArray)) (sumS (⟨#[98]⟩ : ByteArray))) (pairS (sumS (⟨#[99]⟩ : ByteArray)) zeroB))))) (wt0 rfl) rfl rfl (fun wx H => x_move rfl rfl) ?_
  by_cases hb16 : (pairS (pairS (sumS ⟨#[97]⟩) (sumS ⟨#[98]⟩)) (pairS (sumS ⟨#[99]⟩) zeroB)) = (pairS (pairS (sumS (⟨#[97]⟩ : ByteArray)) (sumS (⟨#[98]⟩ : ByteArray))) (pairS (sumS (⟨#[99]⟩ : ByteArray)) zeroB))
  · skip
    refine q_val (v := .slice p12 2 c13) (wt1 rfl rfl rfl rfl (decide_eq_true hb16)) rfl rfl (fun wx H => x_move rfl rfl) ?_
    refine q_val (v := .int .i64 2) (wt1 rfl rfl rfl rfl (decide_eq_true hb16)) rfl rfl (fun wx H => x_lenl rfl rfl Try.underlying22) ?_
    refine q_val (v := .bool (decide ((2 : Int) = 2))) (wt1 rfl rfl rfl rfl (decide_eq_true hb16)) rfl rfl (fun wx H => x_bin rfl rfl rfl b_eql) ?_
    refine q_val (v := .bool (decide ((2 : Int) = 2))) (wt0 rfl) rfl rfl (fun wx H => x_pick_t rfl rfl (decide_eq_true hb16) rfl) ?_
    refine q_val (v := .bool (decide ((2 : Int) = 2))) (wt0 rfl) rfl rfl (fun wx H => x_move rfl rfl) ?_
    refine q_val (v := .slice p12 2 c13) (wt1 rfl rfl rfl rfl (decide_eq_true rfl)) rfl rfl (fun wx H => x_move rfl rfl) ?_
    refine q_val (v := .pointer ((p12).map fun q => q.add (0 * 1))) (wt1 rfl rfl rfl rfl (decide_eq_true rfl)) rfl rfl (fun wx H => x_idxP 0 (((H15.rwReads (k := 0) rfl).2.2 (by omega)).imp fun _ h => h.1) rfl rfl rfl Try.underlying22 sz9 (by omega)) ?_
    refine q_val (v := .string zeroB) (wt1 rfl rfl rfl rfl (decide_eq_true rfl)) rfl rfl (fun wx H => x_loadR1 0 (H.rwReads (k := 0) rfl) (by omega) rfl rfl Try.underlying9 rfl (rfl)) ?_
    refine q_call (wt1 rfl rfl rfl rfl (decide_eq_true rfl)) rfl rfl (fun wx H => x_call' rfl rfl cl44) (fun wx H => (zero_h _).mono (by rintro _ _ ⟨rfl, h⟩; exact ⟨rfl, H.absorb (new := []) h⟩)) ?_
    refine q_val (v := .bool (decide (zeroB = zeroB))) (wt1 rfl rfl rfl rfl (decide_eq_true rfl)) rfl rfl (fun wx H => x_bin rfl rfl rfl b_eqs) ?_
    refine q_val (v := .bool (decide (zeroB = zeroB))) (wt0 rfl) rfl rfl (fun wx H => x_pick_t rfl rfl (decide_eq_true rfl) rfl) ?_
    refine q_val (v := .bool (decide (zeroB = zeroB))) (wt0 rfl) rfl rfl (fun wx H => x_move rfl rfl) ?_
    refine q_val (v := .slice p12 2 c13) (wt1 rfl rfl rfl rfl (decide_eq_true rfl)) rfl rfl (fun wx H => x_move rfl rfl) ?_
    refine q_val (v := .pointer ((p12).map fun q => q.add (1 * 1))) (wt1 rfl rfl rfl rfl (decide_eq_true rfl)) rfl rfl (fun wx H => x_idxP 1 (((H15.rwReads (k := 0) rfl).2.2 (by omega)).imp fun _ h => h.1) rfl rfl rfl Try.underlying22 sz9 (by omega)) ?_
    refine q_val (v := .string ((pairS (sumS ⟨#[97]⟩) (sumS ⟨#[98]⟩)))) (wt1 rfl rfl rfl rfl (decide_eq_true rfl)) rfl rfl (fun wx H => x_loadR1 1 (H.rwReads (k := 0) rfl) (by omega) rfl rfl Try.underlying9 rfl (rfl)) ?_
    refine q_val (v := .slice (some ⟨g7, 0, none⟩) (3) (3)) (wt1 rfl rfl rfl rfl (decide_eq_true rfl)) rfl rfl (fun wx H => x_move rfl rfl) ?_
    refine q_val (v := .pointer (some ⟨g7, 0, none⟩)) (wt1 rfl rfl rfl rfl (decide_eq_true rfl)) rfl rfl (fun wx H => x_indexAddr 0 rfl rfl rfl Try.underlying22 sz9 (by omega) (off' := 0) rfl) ?_
    refine q_val (v := .string ((sumS (⟨#[97]⟩ : ByteArray)))) (wt1 rfl rfl rfl rfl (decide_eq_true rfl)) rfl rfl (fun wx H => x_load1 H 1 rfl rfl Try.underlying9 rfl rfl rfl) ?_
    refine q_val (v := .slice (some ⟨g7, 0, none⟩) (3) (3)) (wt1 rfl rfl rfl rfl (decide_eq_true rfl)) rfl rfl (fun wx H => x_move rfl rfl) ?_
    refine q_val (v := .pointer (some ⟨g7, 1, none⟩)) (wt1 rfl rfl rfl rfl (decide_eq_true rfl)) rfl rfl (fun wx H => x_indexAddr 1 rfl rfl rfl Try.underlying22 sz9 (by omega) (off' := 1) rfl) ?_
    refine q_val (v := .string ((sumS (⟨#[98]⟩ : ByteArray)))) (wt1 rfl rfl rfl rfl (decide_eq_true rfl)) rfl rfl (fun wx H => x_load1 H 1 rfl rfl Try.underlying9 rfl rfl rfl) ?_
    refine q_call (wt1 rfl rfl rfl rfl (decide_eq_true rfl)) rfl rfl (fun wx H => x_call' rfl rfl cl43) (fun wx H => (pair_h _ _ (by simp only [sumS_size, pairS_size, zeroB_size]; omega) _).mono (by rintro _ _ ⟨rfl, h⟩; exact ⟨rfl, H.absorb (new := []) h⟩)) ?_
    refine q_val (v := .bool (decide ((pairS (sumS ⟨#[97]⟩) (sumS ⟨#[98]⟩)) = (pairS (sumS (⟨#[97]⟩ : ByteArray)) (sumS (⟨#[98]⟩ : ByteArray)))))) (wt1 rfl rfl rfl rfl (decide_eq_true rfl)) rfl rfl (fun wx H => x_bin rfl rfl rfl b_eqs) ?_
    refine q_val (v := .bool (decide ((pairS (sumS ⟨#[97]⟩) (sumS ⟨#[98]⟩)) = (pairS (sumS (⟨#[97]⟩ : ByteArray)) (sumS (⟨#[98]⟩ : ByteArray)))))) (wt0 rfl) rfl rfl (fun wx H => x_pick_t rfl rfl (decide_eq_true rfl) rfl) ?_
    refine q_val (v := .bool (decide ((pairS (sumS ⟨#[97]⟩) (sumS ⟨#[98]⟩)) = (pairS (sumS (⟨#[97]⟩ : ByteArray)) (sumS (⟨#[98]⟩ : ByteArray)))))) (wt0 rfl) rfl rfl (fun wx H => x_assign rfl rfl) ?_
    refine q_nil (fun wq17 H18 => ?_)
    refine g_then ?_
    refine g_weak [(0, .bool (decide ((pairS (sumS ⟨#[97]⟩) (sumS ⟨#[98]⟩)) = (pairS (sumS (⟨#[97]⟩ : ByteArray)) (sumS (⟨#[98]⟩ : ByteArray))))))] ⟨rfl, trivial⟩ ?_
    refine g_ret ?_
    refine fin_ret [.tmp 0] [.bool (decide ((pairS (sumS ⟨#[97]⟩) (sumS ⟨#[98]⟩)) = (pairS (sumS (⟨#[97]⟩ : ByteArray)) (sumS (⟨#[98]⟩ : ByteArray)))))] rfl ⟨rfl, trivial⟩ ?_
    exact ⟨rfl, H18.mask [false, false, true]⟩
  · skip
    refine q_not (wn1 rfl rfl rfl rfl (decide_eq_false hb16)) rfl rfl ?_
    refine q_not (wn1 rfl rfl rfl rfl (decide_eq_false hb16)) rfl rfl ?_
    refine q_not (wn1 rfl rfl rfl rfl (decide_eq_false hb16)) rfl rfl ?_
    refine q_val (v := .bool false) (wt0 rfl) rfl rfl (fun wx H => x_pick_f rfl rfl (decide_eq_false hb16) rfl) ?_
    refine q_val (v := .bool false) (wt0 rfl) rfl rfl (fun wx H => x_move rfl rfl) ?_
    refine q_not (wn1 rfl rfl rfl rfl rfl) rfl rfl ?_
    refine q_not (wn1 rfl rfl rfl rfl rfl) rfl rfl ?_
    refine q_not (wn1 rfl rfl rfl rfl rfl) rfl rfl ?_
    refine q_not (wn1 rfl rfl rfl rfl rfl) rfl rfl ?_
    refine q_not (wn1 rfl rfl rfl rfl rfl) rfl rfl ?_
    refine q_val (v := .bool false) (wt0 rfl) rfl rfl (fun wx H => x_pick_f rfl rfl rfl rfl) ?_
    refine q_val (v := .bool false) (wt0 rfl) rfl rfl (fun wx H => x_move rfl rfl) ?_
    refine q_not (wn1 rfl rfl rfl rfl rfl) rfl rfl ?_
    refine q_not (wn1 rfl rfl rfl rfl rfl) rfl rfl ?_
    refine q_not (wn1 rfl rfl rfl rfl rfl) rfl rfl ?_
    refine q_not (wn1 rfl rfl rfl rfl rfl) rfl rfl ?_
    refine q_not (wn1 rfl rfl rfl rfl rfl) rfl rfl ?_
    refine q_not (wn1 rfl rfl rfl rfl rfl) rfl rfl ?_
    refine q_not (wn1 rfl rfl rfl rfl rfl) rfl rfl ?_
    refine q_not (wn1 rfl rfl rfl rfl rfl) rfl rfl ?_
    refine q_not (wn1 rfl rfl rfl rfl rfl) rfl rfl ?_
    refine q_not (wn1 rfl rfl rfl rfl rfl) rfl rfl ?_
    refine q_not (wn1 rfl rfl rfl rfl rfl) rfl rfl ?_
    refine q_val (v := .bool false) (wt0 rfl) rfl rfl (fun wx H => x_pick_f rfl rfl rfl rfl) ?_
    refine q_val (v := .bool false) (wt0 rfl) rfl rfl (fun wx H => x_assign rfl rfl) ?_
    refine q_nil (fun wq19 H20 => ?_)
    refine g_then ?_
    refine g_weak [(0, .bool false)] ⟨rfl, trivial⟩ ?_
    refine g_ret ?_
    refine fin_ret [.tmp 0] [.bool false] rfl ⟨rfl, trivial⟩ ?_
    exact absurd rfl hb16
end Go.Proofs.Ytlajgickimgigaa
