import Derived.Test.YthfglkkjkpdkpaaDoorNk
set_option linter.unusedSimpArgs false
set_option linter.unusedVariables false
namespace Go.Proofs.YthfglkkjkpdkpaaDoor
open Go.RowKit

theorem cl10 : callable Tryd.prog 10 = true := by kernel_rfl
theorem cl11 : callable Tryd.prog 11 = true := by kernel_rfl
theorem cl12 : callable Tryd.prog 12 = true := by kernel_rfl
theorem cl13 : callable Tryd.prog 13 = true := by kernel_rfl
theorem cl14 : callable Tryd.prog 14 = true := by kernel_rfl
theorem cl15 : callable Tryd.prog 15 = true := by kernel_rfl
theorem cl16 : callable Tryd.prog 16 = true := by kernel_rfl
theorem cl17 : callable Tryd.prog 17 = true := by kernel_rfl
theorem cl18 : callable Tryd.prog 18 = true := by kernel_rfl
theorem cl19 : callable Tryd.prog 19 = true := by kernel_rfl
theorem cl20 : callable Tryd.prog 20 = true := by kernel_rfl
theorem cl21 : callable Tryd.prog 21 = true := by kernel_rfl
theorem cl22 : callable Tryd.prog 22 = true := by kernel_rfl
theorem cl4 : callable Tryd.prog 4 = true := by kernel_rfl
theorem cl5 : callable Tryd.prog 5 = true := by kernel_rfl
theorem cl6 : callable Tryd.prog 6 = true := by kernel_rfl
theorem cl7 : callable Tryd.prog 7 = true := by kernel_rfl
theorem cl8 : callable Tryd.prog 8 = true := by kernel_rfl
theorem cl9 : callable Tryd.prog 9 = true := by kernel_rfl
theorem fo32_0 : foO Tryd.prog 32 0 = some 0 := by kernel_rfl
theorem fo32_1 : foO Tryd.prog 32 1 = some 1 := by kernel_rfl
theorem fo32_2 : foO Tryd.prog 32 2 = some 2 := by kernel_rfl
theorem sz32 : szO Tryd.prog 32 = some 3 := by kernel_rfl
theorem ze32 : zeO Tryd.prog 32 = some (.agg #[.int .i64 0, .int .i64 0, .int .i64 0]) := by kernel_rfl
structure Act where
  kind : Int
  id : Int
  pc : Int
def actL (x : Act) : List Value := [.int .i64 x.kind, .int .i64 x.id, .int .i64 x.pc]
theorem actE : Enc 3 actL := ⟨by decide, fun _ => rfl, fun _ => rfl⟩
theorem fr_nxt {A : SP} {id : Int} {m : Nat} {fr fr2 : Bool} (h : fr = true → Fresh A id m) (h2 : fr2 = true → fr = true ∨ (countT A (m : Int) = 0 ∧ countH A (m : Int) = 0 ∧ (m : Int) ∉ toldV A id)) : fr2 = true → Fresh A id (m + 1) := fun h3 => by
  rcases h2 h3 with h4 | h4
  · obtain ⟨k, hk, h5⟩ := h h4; exact ⟨k, by omega, h5⟩
  · exact ⟨m, by omega, h4⟩
set_option maxRecDepth 20000 in
set_option maxHeartbeats 4000000 in
set_option maxRecDepth 20000 in
set_option maxHeartbeats 4000000 in
theorem new_x (seed : ByteArray) (pc : Int)  (w : World) : Calls Tryd.prog 5 #[.string seed, .int .i64 pc] w fun e w' => ((newE seed pc) ≠ 0 ∧ e = .returned (.tuple #[.pointer none, .int .i64 (newE seed pc)]) ∧ S w' [Old w no]) ∨ ((newE seed pc) = 0 ∧ ∃ Y : XM, Y.A = ⟨seed, pc.toNat, []⟩ ∧ e = .returned (.tuple #[.pointer (some ⟨Y.g, 0, none⟩), .int .i64 0]) ∧ S w' ([Y.I] ++ [Old w no])) := by
  have H0 := S.old w
  refine enter 26 Tryd.func5 rfl rfl rfl ?_
  refine g_weak [(0, .string seed), (1, .int .i64 pc)] ⟨rfl, rfl, trivial⟩ ?_
  refine g_seq ?_
  refine g_region ?_
  refine l_of (s_val (v := .pointer none) (wt0 rfl) rfl rfl (x_assign rfl rfl) ?_)
  refine l_of (s_val (v := .int .i64 0) (wt0 rfl) rfl rfl (x_assign rfl rfl) ?_)
  refine g_nil ?_
  refine g_then ?_
  refine g_seq ?_
  refine g_block ?_
  refine g_seq ?_
  refine g_region ?_
  refine l_of (s_val (v := .string seed) (wt0 rfl) rfl rfl (x_move rfl rfl) ?_)
  refine l_of (s_val (v := .int .i64 ((seed.size : Int))) (wt0 rfl) rfl rfl (x_lens rfl rfl Tryd.underlying9) ?_)
  refine l_of (s_val (v := .bool (decide ((100 : Int) < (seed.size : Int)))) (wt0 rfl) rfl rfl (x_bin rfl rfl rfl b_gtr) ?_)
  refine l_of (s_val (v := .bool (decide ((100 : Int) < (seed.size : Int)))) (wt0 rfl) rfl rfl (x_assign rfl rfl) ?_)
  refine g_nil ?_
  refine g_then ?_
  by_cases hb1 : (100 : Int) < (seed.size : Int)
  · skip
    refine g_cond_t rfl (decide_eq_true hb1) ?_
    refine g_seq ?_
    refine g_region ?_
    refine l_of (s_val (v := .pointer none) (wt0 rfl) rfl rfl (x_assign rfl rfl) ?_)
    refine l_of (s_val (v := .int .i64 1) (wt0 rfl) rfl rfl (x_assign rfl rfl) ?_)
    refine g_nil ?_
    refine g_then ?_
    refine g_ret ?_
    refine g_in_ret ?_
    refine g_then_ret ?_
    refine fin_ret [.tmp 4, .tmp 5] [.pointer none, .int .i64 1] rfl ⟨rfl, rfl, trivial⟩ ?_
    have hv : newE seed pc = 1 := by unfold newE; exact if_pos (by omega)
    exact .inl ⟨by rw [hv]; decide, by rw [hv]; rfl, H0.mask [true]⟩
  · skip
    refine g_cond_f rfl (decide_eq_false hb1) ?_
    refine g_seq ?_
    refine g_region ?_
    refine l_of (s_val (v := .int .i64 pc) (wt0 rfl) rfl rfl (x_move rfl rfl) ?_)
    refine l_of (s_val (v := .bool (decide ((pc : Int) < 1))) (wt0 rfl) rfl rfl (x_bin rfl rfl rfl b_lss) ?_)
    refine l_of (s_val (v := .bool (decide ((pc : Int) < 1))) (wt0 rfl) rfl rfl (x_move rfl rfl) ?_)
    by_cases hb2 : (pc : Int) < 1
    · skip
      refine l_of (s_not (wn1 rfl rfl rfl rfl (decide_eq_true hb2)) rfl rfl ?_)
      refine l_of (s_not (wn1 rfl rfl rfl rfl (decide_eq_true hb2)) rfl rfl ?_)
      refine l_of (s_val (v := .bool true) (wt0 rfl) rfl rfl (x_pick_t rfl rfl (decide_eq_true hb2) rfl) ?_)
      refine l_of (s_val (v := .bool true) (wt0 rfl) rfl rfl (x_assign rfl rfl) ?_)
      refine g_nil ?_
      refine g_then ?_
      refine g_weak [(0, .string seed), (1, .int .i64 pc), (10, .bool true)] ⟨rfl, rfl, rfl, trivial⟩ ?_
      refine g_cond_t rfl rfl ?_
      refine g_seq ?_
      refine g_region ?_
      refine l_of (s_val (v := .pointer none) (wt0 rfl) rfl rfl (x_assign rfl rfl) ?_)
      refine l_of (s_val (v := .int .i64 7) (wt0 rfl) rfl rfl (x_assign rfl rfl) ?_)
      refine g_nil ?_
      refine g_then ?_
      refine g_ret ?_
      refine g_in_ret ?_
      refine g_then_ret ?_
      refine fin_ret [.tmp 4, .tmp 5] [.pointer none, .int .i64 7] rfl ⟨rfl, rfl, trivial⟩ ?_
      have hv : newE seed pc = 7 := by unfold newE; rw [if_neg (by omega)]; exact if_pos (by omega)
      exact .inl ⟨by rw [hv]; decide, by rw [hv]; rfl, H0.mask [true]⟩
    · skip
      refine l_of (s_val (v := .int .i64 pc) (wt1 rfl rfl rfl rfl (decide_eq_false hb2)) rfl rfl (x_move rfl rfl) ?_)
      refine l_of (s_val (v := .bool (decide ((4096 : Int) < pc))) (wt1 rfl rfl rfl rfl (decide_eq_false hb2)) rfl rfl (x_bin rfl rfl rfl b_gtr) ?_)
      refine l_of (s_val (v := .bool (decide ((4096 : Int) < pc))) (wt0 rfl) rfl rfl (x_pick_f rfl rfl (decide_eq_false hb2) rfl) ?_)
      refine l_of (s_val (v := .bool (decide ((4096 : Int) < pc))) (wt0 rfl) rfl rfl (x_assign rfl rfl) ?_)
      refine g_nil ?_
      refine g_then ?_
      refine g_weak [(0, .string seed), (1, .int .i64 pc), (10, .bool (decide ((4096 : Int) < pc)))] ⟨rfl, rfl, rfl, trivial⟩ ?_
      by_cases hb3 : (4096 : Int) < pc
      · skip
        refine g_cond_t rfl (decide_eq_true hb3) ?_
        refine g_seq ?_
        refine g_region ?_
        refine l_of (s_val (v := .pointer none) (wt0 rfl) rfl rfl (x_assign rfl rfl) ?_)
        refine l_of (s_val (v := .int .i64 7) (wt0 rfl) rfl rfl (x_assign rfl rfl) ?_)
        refine g_nil ?_
        refine g_then ?_
        refine g_ret ?_
        refine g_in_ret ?_
        refine g_then_ret ?_
        refine fin_ret [.tmp 4, .tmp 5] [.pointer none, .int .i64 7] rfl ⟨rfl, rfl, trivial⟩ ?_
        have hv : newE seed pc = 7 := by unfold newE; rw [if_neg (by omega)]; exact if_pos (by omega)
        exact .inl ⟨by rw [hv]; decide, by rw [hv]; rfl, H0.mask [true]⟩
      · skip
        refine g_cond_f rfl (decide_eq_false hb3) ?_
        refine g_skip ?_
        refine g_in ?_
        refine g_then ?_
        refine g_seq ?_
        refine g_any [] (fun _ => True) [] (by kernel_rfl) H0 (fun wq4 H5 => ?_)
        refine a_pure (v := .int .i64 pc) 0 rfl (wt0 rfl) rfl rfl rfl (by kernel_rfl) (by kernel_rfl) (by kernel_rfl) (.inr fun _ => trivial) (fun wx => x_move rfl rfl) ?_
        refine a_pure (v := .int .i64 pc) 2 rfl (wt0 rfl) rfl rfl rfl (by kernel_rfl) (by kernel_rfl) (by kernel_rfl) (.inr fun _ => trivial) (fun wx => x_move rfl rfl) ?_
        refine a_pure (v := .string seed) 5 rfl (wt0 rfl) rfl rfl rfl (by kernel_rfl) (by kernel_rfl) (by kernel_rfl) (.inr fun _ => trivial) (fun wx => x_move rfl rfl) ?_
        refine a_three (i := 1) (j := 3) (k := 6) (by kernel_rfl) rfl rfl rfl ?_ ?_ ?_
        · skip
          refine s_make1 ((pc).toNat) H5 (wt0 rfl) rfl rfl rfl rfl rfl Tryd.underlying35 inf3 rfl (by omega) ?_
          intro g6 wq7 H8
          refine a_k trivial ?_
          refine a_two (i := 3) (j := 6) (by kernel_rfl) rfl rfl ?_ ?_
          · skip
            refine s_make1 ((pc).toNat) H8 (wt0 rfl) rfl rfl rfl rfl rfl Tryd.underlying35 inf3 rfl (by omega) ?_
            intro g9 wq10 H11
            refine a_k trivial ?_
            refine a_pure (v := .agg #[.slice (some ⟨g6, 0, none⟩) (((pc).toNat)) (((pc).toNat)), .slice (some ⟨g9, 0, none⟩) (((pc).toNat)) (((pc).toNat))]) 4 rfl (wt0 rfl) rfl rfl rfl (by kernel_rfl) (by kernel_rfl) (by kernel_rfl) (.inr fun _ => trivial) (fun wx => x_build (vs := [.slice (some ⟨g6, 0, none⟩) (((pc).toNat)) (((pc).toNat)), .slice (some ⟨g9, 0, none⟩) (((pc).toNat)) (((pc).toNat))]) rfl rfl (cells := #[.slice (some ⟨g6, 0, none⟩) (((pc).toNat)) (((pc).toNat)), .slice (some ⟨g9, 0, none⟩) (((pc).toNat)) (((pc).toNat))]) (by kernel_rfl)) ?_
            refine a_one (i := 6) (by kernel_rfl) rfl ?_
            refine s_makeMap (α := Nat) (Value.int .i64) ptV okI H11 (wt0 rfl) rfl rfl rfl ?_
            intro mg12 wq13 H14
            replace H14 : S wq13 [Mp (Value.int .i64) ptV okI mg12 (fun _ => none), Ob g9 (.cells (Array.replicate ((pc).toNat) (.int .i64 0)) 3 (0, 0)), Ob g6 (.cells (Array.replicate ((pc).toNat) (.int .i64 0)) 3 (0, 0)), Old w no] := H14
            refine a_k trivial ?_
            refine a_pure (v := .agg #[.slice (some ⟨g6, 0, none⟩) (((pc).toNat)) (((pc).toNat)), .slice (some ⟨g9, 0, none⟩) (((pc).toNat)) (((pc).toNat)), .string seed, .map (some mg12)]) 7 rfl (wt0 rfl) rfl rfl rfl (by kernel_rfl) (by kernel_rfl) (by kernel_rfl) (.inr fun _ => trivial) (fun wx => x_build (vs := [.agg #[.slice (some ⟨g6, 0, none⟩) (((pc).toNat)) (((pc).toNat)), .slice (some ⟨g9, 0, none⟩) (((pc).toNat)) (((pc).toNat))], .string seed, .map (some mg12)]) rfl rfl (cells := #[.slice (some ⟨g6, 0, none⟩) (((pc).toNat)) (((pc).toNat)), .slice (some ⟨g9, 0, none⟩) (((pc).toNat)) (((pc).toNat)), .string seed, .map (some mg12)]) (by kernel_rfl)) ?_
            refine a_one (i := 8) (by kernel_rfl) rfl ?_
            refine s_box H14 (wt0 rfl) rfl rfl rfl rfl ?_
            intro g15 wq16 H17
            refine a_k trivial ?_
            refine a_pure (v := .pointer (some ⟨g15, 0, none⟩)) 9 rfl (wt0 rfl) rfl rfl rfl (by kernel_rfl) (by kernel_rfl) (by kernel_rfl) (.inr fun _ => trivial) (fun wx => x_assign rfl rfl) ?_
            refine a_pure (v := .int .i64 0) 10 rfl (wt0 rfl) rfl rfl rfl (by kernel_rfl) (by kernel_rfl) (by kernel_rfl) (.inr fun _ => trivial) (fun wx => x_assign rfl rfl) ?_
            refine a_done (by kernel_rfl) ?_
            refine g_then ?_
            refine g_weak [(4, .pointer (some ⟨g15, 0, none⟩)), (5, .int .i64 0)] ⟨rfl, rfl, trivial⟩ ?_
            refine g_ret ?_
            refine fin_ret [.tmp 4, .tmp 5] [.pointer (some ⟨g15, 0, none⟩), .int .i64 0] rfl ⟨rfl, rfl, trivial⟩ ?_
            have hv : newE seed pc = 0 := by unfold newE; rw [if_neg (by omega), if_neg (by omega)]
            have h1 := H17.takes [0, 3, 2, 1, 4] (by decide)
            have hb : pc.toNat ≤ maxLen := by unfold maxLen; omega
            have h2 := S.obFl (n := pc.toNat) (l := cntL pc.toNat fun _ => 0) intE h1 (k := 1) rfl (cntL_len _ _).symm hb (fl_rep _)
            have h3 := S.obFl (n := pc.toNat) (l := cntL pc.toNat fun _ => 0) intE h2 (k := 2) rfl (cntL_len _ _).symm hb (fl_rep _)
            have h4 := (h3.takes [0, 1, 2, 3, 4] (by decide)).lstNil PeI
            rw [show (fun _ : Int => (none : Option Nat)) = peerM [] from rfl] at h4
            exact .inr ⟨hv, (⟨g15, mg12, some ⟨g6, 0, none⟩, pc.toNat, some ⟨g9, 0, none⟩, pc.toNat, seed, pc.toNat, []⟩ : XM), rfl, rfl, S.big (L := [_, _, _, _, _]) (h4.takes [1, 2, 3, 4, 0, 5] (by decide))⟩
          · skip
            refine s_makeMap (α := Nat) (Value.int .i64) ptV okI H8 (wt0 rfl) rfl rfl rfl ?_
            intro mg18 wq19 H20
            replace H20 : S wq19 [Mp (Value.int .i64) ptV okI mg18 (fun _ => none), Ob g6 (.cells (Array.replicate ((pc).toNat) (.int .i64 0)) 3 (0, 0)), Old w no] := H20
            refine a_k trivial ?_
            refine a_one (i := 3) (by kernel_rfl) rfl ?_
            refine s_make1 ((pc).toNat) H20 (wt0 rfl) rfl rfl rfl rfl rfl Tryd.underlying35 inf3 rfl (by omega) ?_
            intro g21 wq22 H23
            refine a_k trivial ?_
            refine a_pure (v := .agg #[.slice (some ⟨g6, 0, none⟩) (((pc).toNat)) (((pc).toNat)), .slice (some ⟨g21, 0, none⟩) (((pc).toNat)) (((pc).toNat))]) 4 rfl (wt0 rfl) rfl rfl rfl (by kernel_rfl) (by kernel_rfl) (by kernel_rfl) (.inr fun _ => trivial) (fun wx => x_build (vs := [.slice (some ⟨g6, 0, none⟩) (((pc).toNat)) (((pc).toNat)), .slice (some ⟨g21, 0, none⟩) (((pc).toNat)) (((pc).toNat))]) rfl rfl (cells := #[.slice (some ⟨g6, 0, none⟩) (((pc).toNat)) (((pc).toNat)), .slice (some ⟨g21, 0, none⟩) (((pc).toNat)) (((pc).toNat))]) (by kernel_rfl)) ?_
            refine a_pure (v := .agg #[.slice (some ⟨g6, 0, none⟩) (((pc).toNat)) (((pc).toNat)), .slice (some ⟨g21, 0, none⟩) (((pc).toNat)) (((pc).toNat)), .string seed, .map (some mg18)]) 7 rfl (wt0 rfl) rfl rfl rfl (by kernel_rfl) (by kernel_rfl) (by kernel_rfl) (.inr fun _ => trivial) (fun wx => x_build (vs := [.agg #[.slice (some ⟨g6, 0, none⟩) (((pc).toNat)) (((pc).toNat)), .slice (some ⟨g21, 0, none⟩) (((pc).toNat)) (((pc).toNat))], .string seed, .map (some mg18)]) rfl rfl (cells := #[.slice (some ⟨g6, 0, none⟩) (((pc).toNat)) (((pc).toNat)), .slice (some ⟨g21, 0, none⟩) (((pc).toNat)) (((pc).toNat)), .string seed, .map (some mg18)]) (by kernel_rfl)) ?_
            refine a_one (i := 8) (by kernel_rfl) rfl ?_
            refine s_box H23 (wt0 rfl) rfl rfl rfl rfl ?_
            intro g24 wq25 H26
            refine a_k trivial ?_
            refine a_pure (v := .pointer (some ⟨g24, 0, none⟩)) 9 rfl (wt0 rfl) rfl rfl rfl (by kernel_rfl) (by kernel_rfl) (by kernel_rfl) (.inr fun _ => trivial) (fun wx => x_assign rfl rfl) ?_
            refine a_pure (v := .int .i64 0) 10 rfl (wt0 rfl) rfl rfl rfl (by kernel_rfl) (by kernel_rfl) (by kernel_rfl) (.inr fun _ => trivial) (fun wx => x_assign rfl rfl) ?_
            refine a_done (by kernel_rfl) ?_
            refine g_then ?_
            refine g_weak [(4, .pointer (some ⟨g24, 0, none⟩)), (5, .int .i64 0)] ⟨rfl, rfl, trivial⟩ ?_
            refine g_ret ?_
            refine fin_ret [.tmp 4, .tmp 5] [.pointer (some ⟨g24, 0, none⟩), .int .i64 0] rfl ⟨rfl, rfl, trivial⟩ ?_
            have hv : newE seed pc = 0 := by unfold newE; rw [if_neg (by omega), if_neg (by omega)]
            have h1 := H26.takes [0, 3, 1, 2, 4] (by decide)
            have hb : pc.toNat ≤ maxLen := by unfold maxLen; omega
            have h2 := S.obFl (n := pc.toNat) (l := cntL pc.toNat fun _ => 0) intE h1 (k := 1) rfl (cntL_len _ _).symm hb (fl_rep _)
            have h3 := S.obFl (n := pc.toNat) (l := cntL pc.toNat fun _ => 0) intE h2 (k := 2) rfl (cntL_len _ _).symm hb (fl_rep _)
            have h4 := (h3.takes [0, 1, 2, 3, 4] (by decide)).lstNil PeI
            rw [show (fun _ : Int => (none : Option Nat)) = peerM [] from rfl] at h4
            exact .inr ⟨hv, (⟨g24, mg18, some ⟨g6, 0, none⟩, pc.toNat, some ⟨g21, 0, none⟩, pc.toNat, seed, pc.toNat, []⟩ : XM), rfl, rfl, S.big (L := [_, _, _, _, _]) (h4.takes [1, 2, 3, 4, 0, 5] (by decide))⟩
        · skip
          refine s_make1 ((pc).toNat) H5 (wt0 rfl) rfl rfl rfl rfl rfl Tryd.underlying35 inf3 rfl (by omega) ?_
          intro g27 wq28 H29
          refine a_k trivial ?_
          refine a_two (i := 1) (j := 6) (by kernel_rfl) rfl rfl ?_ ?_
          · skip
            refine s_make1 ((pc).toNat) H29 (wt0 rfl) rfl rfl rfl rfl rfl Tryd.underlying35 inf3 rfl (by omega) ?_
            intro g30 wq31 H32
            refine a_k trivial ?_
            refine a_pure (v := .agg #[.slice (some ⟨g30, 0, none⟩) (((pc).toNat)) (((pc).toNat)), .slice (some ⟨g27, 0, none⟩) (((pc).toNat)) (((pc).toNat))]) 4 rfl (wt0 rfl) rfl rfl rfl (by kernel_rfl) (by kernel_rfl) (by kernel_rfl) (.inr fun _ => trivial) (fun wx => x_build (vs := [.slice (some ⟨g30, 0, none⟩) (((pc).toNat)) (((pc).toNat)), .slice (some ⟨g27, 0, none⟩) (((pc).toNat)) (((pc).toNat))]) rfl rfl (cells := #[.slice (some ⟨g30, 0, none⟩) (((pc).toNat)) (((pc).toNat)), .slice (some ⟨g27, 0, none⟩) (((pc).toNat)) (((pc).toNat))]) (by kernel_rfl)) ?_
            refine a_one (i := 6) (by kernel_rfl) rfl ?_
            refine s_makeMap (α := Nat) (Value.int .i64) ptV okI H32 (wt0 rfl) rfl rfl rfl ?_
            intro mg33 wq34 H35
            replace H35 : S wq34 [Mp (Value.int .i64) ptV okI mg33 (fun _ => none), Ob g30 (.cells (Array.replicate ((pc).toNat) (.int .i64 0)) 3 (0, 0)), Ob g27 (.cells (Array.replicate ((pc).toNat) (.int .i64 0)) 3 (0, 0)), Old w no] := H35
            refine a_k trivial ?_
            refine a_pure (v := .agg #[.slice (some ⟨g30, 0, none⟩) (((pc).toNat)) (((pc).toNat)), .slice (some ⟨g27, 0, none⟩) (((pc).toNat)) (((pc).toNat)), .string seed, .map (some mg33)]) 7 rfl (wt0 rfl) rfl rfl rfl (by kernel_rfl) (by kernel_rfl) (by kernel_rfl) (.inr fun _ => trivial) (fun wx => x_build (vs := [.agg #[.slice (some ⟨g30, 0, none⟩) (((pc).toNat)) (((pc).toNat)), .slice (some ⟨g27, 0, none⟩) (((pc).toNat)) (((pc).toNat))], .string seed, .map (some mg33)]) rfl rfl (cells := #[.slice (some ⟨g30, 0, none⟩) (((pc).toNat)) (((pc).toNat)), .slice (some ⟨g27, 0, none⟩) (((pc).toNat)) (((pc).toNat)), .string seed, .map (some mg33)]) (by kernel_rfl)) ?_
            refine a_one (i := 8) (by kernel_rfl) rfl ?_
            refine s_box H35 (wt0 rfl) rfl rfl rfl rfl ?_
            intro g36 wq37 H38
            refine a_k trivial ?_
            refine a_pure (v := .pointer (some ⟨g36, 0, none⟩)) 9 rfl (wt0 rfl) rfl rfl rfl (by kernel_rfl) (by kernel_rfl) (by kernel_rfl) (.inr fun _ => trivial) (fun wx => x_assign rfl rfl) ?_
            refine a_pure (v := .int .i64 0) 10 rfl (wt0 rfl) rfl rfl rfl (by kernel_rfl) (by kernel_rfl) (by kernel_rfl) (.inr fun _ => trivial) (fun wx => x_assign rfl rfl) ?_
            refine a_done (by kernel_rfl) ?_
            refine g_then ?_
            refine g_weak [(4, .pointer (some ⟨g36, 0, none⟩)), (5, .int .i64 0)] ⟨rfl, rfl, trivial⟩ ?_
            refine g_ret ?_
            refine fin_ret [.tmp 4, .tmp 5] [.pointer (some ⟨g36, 0, none⟩), .int .i64 0] rfl ⟨rfl, rfl, trivial⟩ ?_
            have hv : newE seed pc = 0 := by unfold newE; rw [if_neg (by omega), if_neg (by omega)]
            have h1 := H38.takes [0, 2, 3, 1, 4] (by decide)
            have hb : pc.toNat ≤ maxLen := by unfold maxLen; omega
            have h2 := S.obFl (n := pc.toNat) (l := cntL pc.toNat fun _ => 0) intE h1 (k := 1) rfl (cntL_len _ _).symm hb (fl_rep _)
            have h3 := S.obFl (n := pc.toNat) (l := cntL pc.toNat fun _ => 0) intE h2 (k := 2) rfl (cntL_len _ _).symm hb (fl_rep _)
            have h4 := (h3.takes [0, 1, 2, 3, 4] (by decide)).lstNil PeI
            rw [show (fun _ : Int => (none : Option Nat)) = peerM [] from rfl] at h4
            exact .inr ⟨hv, (⟨g36, mg33, some ⟨g30, 0, none⟩, pc.toNat, some ⟨g27, 0, none⟩, pc.toNat, seed, pc.toNat, []⟩ : XM), rfl, rfl, S.big (L := [_, _, _, _, _]) (h4.takes [1, 2, 3, 4, 0, 5] (by decide))⟩
          · skip
            refine s_makeMap (α := Nat) (Value.int .i64) ptV okI H29 (wt0 rfl) rfl rfl rfl ?_
            intro mg39 wq40 H41
            replace H41 : S wq40 [Mp (Value.int .i64) ptV okI mg39 (fun _ => none), Ob g27 (.cells (Array.replicate ((pc).toNat) (.int .i64 0)) 3 (0, 0)), Old w no] := H41
            refine a_k trivial ?_
            refine a_one (i := 1) (by kernel_rfl) rfl ?_
            refine s_make1 ((pc).toNat) H41 (wt0 rfl) rfl rfl rfl rfl rfl Tryd.underlying35 inf3 rfl (by omega) ?_
            intro g42 wq43 H44
            refine a_k trivial ?_
            refine a_pure (v := .agg #[.slice (some ⟨g42, 0, none⟩) (((pc).toNat)) (((pc).toNat)), .slice (some ⟨g27, 0, none⟩) (((pc).toNat)) (((pc).toNat))]) 4 rfl (wt0 rfl) rfl rfl rfl (by kernel_rfl) (by kernel_rfl) (by kernel_rfl) (.inr fun _ => trivial) (fun wx => x_build (vs := [.slice (some ⟨g42, 0, none⟩) (((pc).toNat)) (((pc).toNat)), .slice (some ⟨g27, 0, none⟩) (((pc).toNat)) (((pc).toNat))]) rfl rfl (cells := #[.slice (some ⟨g42, 0, none⟩) (((pc).toNat)) (((pc).toNat)), .slice (some ⟨g27, 0, none⟩) (((pc).toNat)) (((pc).toNat))]) (by kernel_rfl)) ?_
            refine a_pure (v := .agg #[.slice (some ⟨g42, 0, none⟩) (((pc).toNat)) (((pc).toNat)), .slice (some ⟨g27, 0, none⟩) (((pc).toNat)) (((pc).toNat)), .string seed, .map (some mg39)]) 7 rfl (wt0 rfl) rfl rfl rfl (by kernel_rfl) (by kernel_rfl) (by kernel_rfl) (.inr fun _ => trivial) (fun wx => x_build (vs := [.agg #[.slice (some ⟨g42, 0, none⟩) (((pc).toNat)) (((pc).toNat)), .slice (some ⟨g27, 0, none⟩) (((pc).toNat)) (((pc).toNat))], .string seed, .map (some mg39)]) rfl rfl (cells := #[.slice (some ⟨g42, 0, none⟩) (((pc).toNat)) (((pc).toNat)), .slice (some ⟨g27, 0, none⟩) (((pc).toNat)) (((pc).toNat)), .string seed, .map (some mg39)]) (by kernel_rfl)) ?_
            refine a_one (i := 8) (by kernel_rfl) rfl ?_
            refine s_box H44 (wt0 rfl) rfl rfl rfl rfl ?_
            intro g45 wq46 H47
            refine a_k trivial ?_
            refine a_pure (v := .pointer (some ⟨g45, 0, none⟩)) 9 rfl (wt0 rfl) rfl rfl rfl (by kernel_rfl) (by kernel_rfl) (by kernel_rfl) (.inr fun _ => trivial) (fun wx => x_assign rfl rfl) ?_
            refine a_pure (v := .int .i64 0) 10 rfl (wt0 rfl) rfl rfl rfl (by kernel_rfl) (by kernel_rfl) (by kernel_rfl) (.inr fun _ => trivial) (fun wx => x_assign rfl rfl) ?_
            refine a_done (by kernel_rfl) ?_
            refine g_then ?_
            refine g_weak [(4, .pointer (some ⟨g45, 0, none⟩)), (5, .int .i64 0)] ⟨rfl, rfl, trivial⟩ ?_
            refine g_ret ?_
            refine fin_ret [.tmp 4, .tmp 5] [.pointer (some ⟨g45, 0, none⟩), .int .i64 0] rfl ⟨rfl, rfl, trivial⟩ ?_
            have hv : newE seed pc = 0 := by unfold newE; rw [if_neg (by omega), if_neg (by omega)]
            have h1 := H47.takes [0, 1, 3, 2, 4] (by decide)
            have hb : pc.toNat ≤ maxLen := by unfold maxLen; omega
            have h2 := S.obFl (n := pc.toNat) (l := cntL pc.toNat fun _ => 0) intE h1 (k := 1) rfl (cntL_len _ _).symm hb (fl_rep _)
            have h3 := S.obFl (n := pc.toNat) (l := cntL pc.toNat fun _ => 0) intE h2 (k := 2) rfl (cntL_len _ _).symm hb (fl_rep _)
            have h4 := (h3.takes [0, 1, 2, 3, 4] (by decide)).lstNil PeI
            rw [show (fun _ : Int => (none : Option Nat)) = peerM [] from rfl] at h4
            exact .inr ⟨hv, (⟨g45, mg39, some ⟨g42, 0, none⟩, pc.toNat, some ⟨g27, 0, none⟩, pc.toNat, seed, pc.toNat, []⟩ : XM), rfl, rfl, S.big (L := [_, _, _, _, _]) (h4.takes [1, 2, 3, 4, 0, 5] (by decide))⟩
        · skip
          refine s_makeMap (α := Nat) (Value.int .i64) ptV okI H5 (wt0 rfl) rfl rfl rfl ?_
          intro mg48 wq49 H50
          replace H50 : S wq49 [Mp (Value.int .i64) ptV okI mg48 (fun _ => none), Old w no] := H50
          refine a_k trivial ?_
          refine a_two (i := 1) (j := 3) (by kernel_rfl) rfl rfl ?_ ?_
          · skip
            refine s_make1 ((pc).toNat) H50 (wt0 rfl) rfl rfl rfl rfl rfl Tryd.underlying35 inf3 rfl (by omega) ?_
            intro g51 wq52 H53
            refine a_k trivial ?_
            refine a_one (i := 3) (by kernel_rfl) rfl ?_
            refine s_make1 ((pc).toNat) H53 (wt0 rfl) rfl rfl rfl rfl rfl Tryd.underlying35 inf3 rfl (by omega) ?_
            intro g54 wq55 H56
            refine a_k trivial ?_
            refine a_pure (v := .agg #[.slice (some ⟨g51, 0, none⟩) (((pc).toNat)) (((pc).toNat)), .slice (some ⟨g54, 0, none⟩) (((pc).toNat)) (((pc).toNat))]) 4 rfl (wt0 rfl) rfl rfl rfl (by kernel_rfl) (by kernel_rfl) (by kernel_rfl) (.inr fun _ => trivial) (fun wx => x_build (vs := [.slice (some ⟨g51, 0, none⟩) (((pc).toNat)) (((pc).toNat)), .slice (some ⟨g54, 0, none⟩) (((pc).toNat)) (((pc).toNat))]) rfl rfl (cells := #[.slice (some ⟨g51, 0, none⟩) (((pc).toNat)) (((pc).toNat)), .slice (some ⟨g54, 0, none⟩) (((pc).toNat)) (((pc).toNat))]) (by kernel_rfl)) ?_
            refine a_pure (v := .agg #[.slice (some ⟨g51, 0, none⟩) (((pc).toNat)) (((pc).toNat)), .slice (some ⟨g54, 0, none⟩) (((pc).toNat)) (((pc).toNat)), .string seed, .map (some mg48)]) 7 rfl (wt0 rfl) rfl rfl rfl (by kernel_rfl) (by kernel_rfl) (by kernel_rfl) (.inr fun _ => trivial) (fun wx => x_build (vs := [.agg #[.slice (some ⟨g51, 0, none⟩) (((pc).toNat)) (((pc).toNat)), .slice (some ⟨g54, 0, none⟩) (((pc).toNat)) (((pc).toNat))], .string seed, .map (some mg48)]) rfl rfl (cells := #[.slice (some ⟨g51, 0, none⟩) (((pc).toNat)) (((pc).toNat)), .slice (some ⟨g54, 0, none⟩) (((pc).toNat)) (((pc).toNat)), .string seed, .map (some mg48)]) (by kernel_rfl)) ?_
            refine a_one (i := 8) (by kernel_rfl) rfl ?_
            refine s_box H56 (wt0 rfl) rfl rfl rfl rfl ?_
            intro g57 wq58 H59
            refine a_k trivial ?_
            refine a_pure (v := .pointer (some ⟨g57, 0, none⟩)) 9 rfl (wt0 rfl) rfl rfl rfl (by kernel_rfl) (by kernel_rfl) (by kernel_rfl) (.inr fun _ => trivial) (fun wx => x_assign rfl rfl) ?_
            refine a_pure (v := .int .i64 0) 10 rfl (wt0 rfl) rfl rfl rfl (by kernel_rfl) (by kernel_rfl) (by kernel_rfl) (.inr fun _ => trivial) (fun wx => x_assign rfl rfl) ?_
            refine a_done (by kernel_rfl) ?_
            refine g_then ?_
            refine g_weak [(4, .pointer (some ⟨g57, 0, none⟩)), (5, .int .i64 0)] ⟨rfl, rfl, trivial⟩ ?_
            refine g_ret ?_
            refine fin_ret [.tmp 4, .tmp 5] [.pointer (some ⟨g57, 0, none⟩), .int .i64 0] rfl ⟨rfl, rfl, trivial⟩ ?_
            have hv : newE seed pc = 0 := by unfold newE; rw [if_neg (by omega), if_neg (by omega)]
            have h1 := H59.takes [0, 2, 1, 3, 4] (by decide)
            have hb : pc.toNat ≤ maxLen := by unfold maxLen; omega
            have h2 := S.obFl (n := pc.toNat) (l := cntL pc.toNat fun _ => 0) intE h1 (k := 1) rfl (cntL_len _ _).symm hb (fl_rep _)
            have h3 := S.obFl (n := pc.toNat) (l := cntL pc.toNat fun _ => 0) intE h2 (k := 2) rfl (cntL_len _ _).symm hb (fl_rep _)
            have h4 := (h3.takes [0, 1, 2, 3, 4] (by decide)).lstNil PeI
            rw [show (fun _ : Int => (none : Option Nat)) = peerM [] from rfl] at h4
            exact .inr ⟨hv, (⟨g57, mg48, some ⟨g51, 0, none⟩, pc.toNat, some ⟨g54, 0, none⟩, pc.toNat, seed, pc.toNat, []⟩ : XM), rfl, rfl, S.big (L := [_, _, _, _, _]) (h4.takes [1, 2, 3, 4, 0, 5] (by decide))⟩
          · skip
            refine s_make1 ((pc).toNat) H50 (wt0 rfl) rfl rfl rfl rfl rfl Tryd.underlying35 inf3 rfl (by omega) ?_
            intro g60 wq61 H62
            refine a_k trivial ?_
            refine a_one (i := 1) (by kernel_rfl) rfl ?_
            refine s_make1 ((pc).toNat) H62 (wt0 rfl) rfl rfl rfl rfl rfl Tryd.underlying35 inf3 rfl (by omega) ?_
            intro g63 wq64 H65
            refine a_k trivial ?_
            refine a_pure (v := .agg #[.slice (some ⟨g63, 0, none⟩) (((pc).toNat)) (((pc).toNat)), .slice (some ⟨g60, 0, none⟩) (((pc).toNat)) (((pc).toNat))]) 4 rfl (wt0 rfl) rfl rfl rfl (by kernel_rfl) (by kernel_rfl) (by kernel_rfl) (.inr fun _ => trivial) (fun wx => x_build (vs := [.slice (some ⟨g63, 0, none⟩) (((pc).toNat)) (((pc).toNat)), .slice (some ⟨g60, 0, none⟩) (((pc).toNat)) (((pc).toNat))]) rfl rfl (cells := #[.slice (some ⟨g63, 0, none⟩) (((pc).toNat)) (((pc).toNat)), .slice (some ⟨g60, 0, none⟩) (((pc).toNat)) (((pc).toNat))]) (by kernel_rfl)) ?_
            refine a_pure (v := .agg #[.slice (some ⟨g63, 0, none⟩) (((pc).toNat)) (((pc).toNat)), .slice (some ⟨g60, 0, none⟩) (((pc).toNat)) (((pc).toNat)), .string seed, .map (some mg48)]) 7 rfl (wt0 rfl) rfl rfl rfl (by kernel_rfl) (by kernel_rfl) (by kernel_rfl) (.inr fun _ => trivial) (fun wx => x_build (vs := [.agg #[.slice (some ⟨g63, 0, none⟩) (((pc).toNat)) (((pc).toNat)), .slice (some ⟨g60, 0, none⟩) (((pc).toNat)) (((pc).toNat))], .string seed, .map (some mg48)]) rfl rfl (cells := #[.slice (some ⟨g63, 0, none⟩) (((pc).toNat)) (((pc).toNat)), .slice (some ⟨g60, 0, none⟩) (((pc).toNat)) (((pc).toNat)), .string seed, .map (some mg48)]) (by kernel_rfl)) ?_
            refine a_one (i := 8) (by kernel_rfl) rfl ?_
            refine s_box H65 (wt0 rfl) rfl rfl rfl rfl ?_
            intro g66 wq67 H68
            refine a_k trivial ?_
            refine a_pure (v := .pointer (some ⟨g66, 0, none⟩)) 9 rfl (wt0 rfl) rfl rfl rfl (by kernel_rfl) (by kernel_rfl) (by kernel_rfl) (.inr fun _ => trivial) (fun wx => x_assign rfl rfl) ?_
            refine a_pure (v := .int .i64 0) 10 rfl (wt0 rfl) rfl rfl rfl (by kernel_rfl) (by kernel_rfl) (by kernel_rfl) (.inr fun _ => trivial) (fun wx => x_assign rfl rfl) ?_
            refine a_done (by kernel_rfl) ?_
            refine g_then ?_
            refine g_weak [(4, .pointer (some ⟨g66, 0, none⟩)), (5, .int .i64 0)] ⟨rfl, rfl, trivial⟩ ?_
            refine g_ret ?_
            refine fin_ret [.tmp 4, .tmp 5] [.pointer (some ⟨g66, 0, none⟩), .int .i64 0] rfl ⟨rfl, rfl, trivial⟩ ?_
            have hv : newE seed pc = 0 := by unfold newE; rw [if_neg (by omega), if_neg (by omega)]
            have h1 := H68.takes [0, 1, 2, 3, 4] (by decide)
            have hb : pc.toNat ≤ maxLen := by unfold maxLen; omega
            have h2 := S.obFl (n := pc.toNat) (l := cntL pc.toNat fun _ => 0) intE h1 (k := 1) rfl (cntL_len _ _).symm hb (fl_rep _)
            have h3 := S.obFl (n := pc.toNat) (l := cntL pc.toNat fun _ => 0) intE h2 (k := 2) rfl (cntL_len _ _).symm hb (fl_rep _)
            have h4 := (h3.takes [0, 1, 2, 3, 4] (by decide)).lstNil PeI
            rw [show (fun _ : Int => (none : Option Nat)) = peerM [] from rfl] at h4
            exact .inr ⟨hv, (⟨g66, mg48, some ⟨g63, 0, none⟩, pc.toNat, some ⟨g60, 0, none⟩, pc.toNat, seed, pc.toNat, []⟩ : XM), rfl, rfl, S.big (L := [_, _, _, _, _]) (h4.takes [1, 2, 3, 4, 0, 5] (by decide))⟩
set_option maxRecDepth 20000 in
set_option maxHeartbeats 4000000 in
set_option maxRecDepth 20000 in
set_option maxHeartbeats 4000000 in
theorem new_r (seed : ByteArray) (pc : Int)  (w : World) : Calls Tryd.prog 6 #[.string seed, .int .i64 pc] w fun e w' => ((newE seed pc) ≠ 0 ∧ e = .returned (.tuple #[.pointer none, .int .i64 (newE seed pc)]) ∧ S w' [Old w no]) ∨ ((newE seed pc) = 0 ∧ ∃ Y : RM, Y.A = ⟨seed, pc.toNat, []⟩ ∧ e = .returned (.tuple #[.pointer (some ⟨Y.h, 0, none⟩), .int .i64 0]) ∧ S w' ([Y.I] ++ [Old w no])) := by
  have H0 := S.old w
  refine enter 21 Tryd.func6 rfl rfl rfl ?_
  refine g_weak [(0, .string seed), (1, .int .i64 pc)] ⟨rfl, rfl, trivial⟩ ?_
  refine g_seq ?_
  refine g_region ?_
  refine l_of (s_val (v := .pointer none) (wt0 rfl) rfl rfl (x_assign rfl rfl) ?_)
  refine l_of (s_val (v := .int .i64 0) (wt0 rfl) rfl rfl (x_assign rfl rfl) ?_)
  refine g_nil ?_
  refine g_then ?_
  refine g_seq ?_
  refine g_block ?_
  refine g_seq ?_
  refine g_region ?_
  refine l_of (s_val (v := .string seed) (wt0 rfl) rfl rfl (x_move rfl rfl) ?_)
  refine l_of (s_val (v := .int .i64 ((seed.size : Int))) (wt0 rfl) rfl rfl (x_lens rfl rfl Tryd.underlying9) ?_)
  refine l_of (s_val (v := .bool (decide ((100 : Int) < (seed.size : Int)))) (wt0 rfl) rfl rfl (x_bin rfl rfl rfl b_gtr) ?_)
  refine l_of (s_val (v := .bool (decide ((100 : Int) < (seed.size : Int)))) (wt0 rfl) rfl rfl (x_assign rfl rfl) ?_)
  refine g_nil ?_
  refine g_then ?_
  by_cases hb1 : (100 : Int) < (seed.size : Int)
  · skip
    refine g_cond_t rfl (decide_eq_true hb1) ?_
    refine g_seq ?_
    refine g_region ?_
    refine l_of (s_val (v := .pointer none) (wt0 rfl) rfl rfl (x_assign rfl rfl) ?_)
    refine l_of (s_val (v := .int .i64 1) (wt0 rfl) rfl rfl (x_assign rfl rfl) ?_)
    refine g_nil ?_
    refine g_then ?_
    refine g_ret ?_
    refine g_in_ret ?_
    refine g_then_ret ?_
    refine fin_ret [.tmp 4, .tmp 5] [.pointer none, .int .i64 1] rfl ⟨rfl, rfl, trivial⟩ ?_
    have hv : newE seed pc = 1 := by unfold newE; exact if_pos (by omega)
    exact .inl ⟨by rw [hv]; decide, by rw [hv]; rfl, H0.mask [true]⟩
  · skip
    refine g_cond_f rfl (decide_eq_false hb1) ?_
    refine g_seq ?_
    refine g_region ?_
    refine l_of (s_val (v := .int .i64 pc) (wt0 rfl) rfl rfl (x_move rfl rfl) ?_)
    refine l_of (s_val (v := .bool (decide ((pc : Int) < 1))) (wt0 rfl) rfl rfl (x_bin rfl rfl rfl b_lss) ?_)
    refine l_of (s_val (v := .bool (decide ((pc : Int) < 1))) (wt0 rfl) rfl rfl (x_move rfl rfl) ?_)
    by_cases hb2 : (pc : Int) < 1
    · skip
      refine l_of (s_not (wn1 rfl rfl rfl rfl (decide_eq_true hb2)) rfl rfl ?_)
      refine l_of (s_not (wn1 rfl rfl rfl rfl (decide_eq_true hb2)) rfl rfl ?_)
      refine l_of (s_val (v := .bool true) (wt0 rfl) rfl rfl (x_pick_t rfl rfl (decide_eq_true hb2) rfl) ?_)
      refine l_of (s_val (v := .bool true) (wt0 rfl) rfl rfl (x_assign rfl rfl) ?_)
      refine g_nil ?_
      refine g_then ?_
      refine g_weak [(0, .string seed), (1, .int .i64 pc), (10, .bool true)] ⟨rfl, rfl, rfl, trivial⟩ ?_
      refine g_cond_t rfl rfl ?_
      refine g_seq ?_
      refine g_region ?_
      refine l_of (s_val (v := .pointer none) (wt0 rfl) rfl rfl (x_assign rfl rfl) ?_)
      refine l_of (s_val (v := .int .i64 7) (wt0 rfl) rfl rfl (x_assign rfl rfl) ?_)
      refine g_nil ?_
      refine g_then ?_
      refine g_ret ?_
      refine g_in_ret ?_
      refine g_then_ret ?_
      refine fin_ret [.tmp 4, .tmp 5] [.pointer none, .int .i64 7] rfl ⟨rfl, rfl, trivial⟩ ?_
      have hv : newE seed pc = 7 := by unfold newE; rw [if_neg (by omega)]; exact if_pos (by omega)
      exact .inl ⟨by rw [hv]; decide, by rw [hv]; rfl, H0.mask [true]⟩
    · skip
      refine l_of (s_val (v := .int .i64 pc) (wt1 rfl rfl rfl rfl (decide_eq_false hb2)) rfl rfl (x_move rfl rfl) ?_)
      refine l_of (s_val (v := .bool (decide ((4096 : Int) < pc))) (wt1 rfl rfl rfl rfl (decide_eq_false hb2)) rfl rfl (x_bin rfl rfl rfl b_gtr) ?_)
      refine l_of (s_val (v := .bool (decide ((4096 : Int) < pc))) (wt0 rfl) rfl rfl (x_pick_f rfl rfl (decide_eq_false hb2) rfl) ?_)
      refine l_of (s_val (v := .bool (decide ((4096 : Int) < pc))) (wt0 rfl) rfl rfl (x_assign rfl rfl) ?_)
      refine g_nil ?_
      refine g_then ?_
      refine g_weak [(0, .string seed), (1, .int .i64 pc), (10, .bool (decide ((4096 : Int) < pc)))] ⟨rfl, rfl, rfl, trivial⟩ ?_
      by_cases hb3 : (4096 : Int) < pc
      · skip
        refine g_cond_t rfl (decide_eq_true hb3) ?_
        refine g_seq ?_
        refine g_region ?_
        refine l_of (s_val (v := .pointer none) (wt0 rfl) rfl rfl (x_assign rfl rfl) ?_)
        refine l_of (s_val (v := .int .i64 7) (wt0 rfl) rfl rfl (x_assign rfl rfl) ?_)
        refine g_nil ?_
        refine g_then ?_
        refine g_ret ?_
        refine g_in_ret ?_
        refine g_then_ret ?_
        refine fin_ret [.tmp 4, .tmp 5] [.pointer none, .int .i64 7] rfl ⟨rfl, rfl, trivial⟩ ?_
        have hv : newE seed pc = 7 := by unfold newE; rw [if_neg (by omega)]; exact if_pos (by omega)
        exact .inl ⟨by rw [hv]; decide, by rw [hv]; rfl, H0.mask [true]⟩
      · skip
        refine g_cond_f rfl (decide_eq_false hb3) ?_
        refine g_skip ?_
        refine g_in ?_
        refine g_then ?_
        refine g_seq ?_
        refine g_region ?_
        refine l_of (s_val (v := .string seed) (wt0 rfl) rfl rfl (x_move rfl rfl) ?_)
        refine l_of (s_val (v := .int .i64 pc) (wt0 rfl) rfl rfl (x_move rfl rfl) ?_)
        refine l_of (s_val (v := .agg #[.string seed, .int .i64 pc, .slice none 0 0]) (wt0 rfl) rfl rfl (x_build (vs := [.string seed, .int .i64 pc]) rfl rfl (cells := #[.string seed, .int .i64 pc, .slice none 0 0]) (by kernel_rfl)) ?_)
        refine l_of (s_box H0 (wt0 rfl) rfl rfl rfl rfl ?_)
        intro g4 wq5 H6
        refine l_of (s_val (v := .pointer (some ⟨g4, 0, none⟩)) (wt0 rfl) rfl rfl (x_assign rfl rfl) ?_)
        refine l_of (s_val (v := .int .i64 0) (wt0 rfl) rfl rfl (x_assign rfl rfl) ?_)
        refine g_nil ?_
        refine g_then ?_
        refine g_ret ?_
        refine fin_ret [.tmp 4, .tmp 5] [.pointer (some ⟨g4, 0, none⟩), .int .i64 0] rfl ⟨rfl, rfl, trivial⟩ ?_
        have hv : newE seed pc = 0 := by unfold newE; rw [if_neg (by omega), if_neg (by omega)]
        have h1 := H6.takes [0, 1] (by decide)
        have h2 := h1.lstNil RoI
        have h3 := h2.nilFl 61 3 shwL
        have ep : ((pc.toNat : Nat) : Int) = pc := by omega
        exact .inr ⟨hv, (⟨g4, none, 0, seed, pc.toNat, []⟩ : RM), rfl, rfl, S.big (L := [_, _, _]) (B := [_]) (by show S _ [Ob g4 (.cells #[.string seed, .int .i64 ((pc.toNat : Nat) : Int), .slice none 0 0] 52 (0, 0)), Rw 61 3 none 0 0 (fl shwL []), Lst RoI [], Old w no]; rw [ep]; exact h3.takes [2, 0, 1, 3] (by decide))⟩
theorem come_n {A : SP} {id : Int} : (comeA A id).n = A.n := by unfold comeA; split <;> rfl
theorem go_n {A : SP} {id : Int} : (goA A id).n = A.n := by unfold goA; cases fnd A.ps id <;> rfl
theorem holds_n {A : SP} {id k : Int} : (holdsA A id k).n = A.n := by
  unfold holdsA; split
  · cases fnd A.ps id <;> rfl
  · rfl
theorem next_n {A : SP} {id : Int} : (nextA A id).n = A.n := by
  unfold nextA; split
  · cases fnd A.ps id <;> rfl
  · rfl
set_option maxRecDepth 20000 in
set_option maxHeartbeats 4000000 in
set_option maxRecDepth 20000 in
set_option maxHeartbeats 4000000 in
theorem shows_law (seed : ByteArray) (pc : Int) (l : List Act) (p : Option Addr) (n c : Nat) (hn2 : n ≤ 9223372036854775807) (hok : ∀ a ∈ l, okI a.id ∧ okI a.pc)  (w : World) (hr : Reads w p n c 3 (fl actL l)) (ht : PowTab w) : Calls Tryd.prog 3 #[.string seed, .int .i64 pc, .slice p n c] w fun e w' => e = .returned (.bool true) ∧ S w' [Old w no] := by
  have H0 := S.old w
  have hnl := hr.lenL actE
  refine enter 269 Tryd.func3 rfl rfl rfl ?_
  refine g_weak [(0, .string seed), (1, .int .i64 pc), (2, .slice p n c)] ⟨rfl, rfl, rfl, trivial⟩ ?_
  refine g_seq ?_
  refine g_region ?_
  refine l_of (s_val (v := .bool false) (wt0 rfl) rfl rfl (x_assign rfl rfl) ?_)
  refine g_nil ?_
  refine g_then ?_
  refine g_seq ?_
  refine g_seq ?_
  refine g_region ?_
  refine l_of (s_val (v := .int .i64 pc) (wt0 rfl) rfl rfl (x_move rfl rfl) ?_)
  refine l_of (s_val (v := .bool (decide ((30 : Int) < pc))) (wt0 rfl) rfl rfl (x_bin rfl rfl rfl b_gtr) ?_)
  refine l_of (s_val (v := .bool (decide ((30 : Int) < pc))) (wt0 rfl) rfl rfl (x_move rfl rfl) ?_)
  by_cases hb1 : (30 : Int) < pc
  · skip
    refine l_of (s_not (wn1 rfl rfl rfl rfl (decide_eq_true hb1)) rfl rfl ?_)
    refine l_of (s_not (wn1 rfl rfl rfl rfl (decide_eq_true hb1)) rfl rfl ?_)
    refine l_of (s_not (wn1 rfl rfl rfl rfl (decide_eq_true hb1)) rfl rfl ?_)
    refine l_of (s_val (v := .bool true) (wt0 rfl) rfl rfl (x_pick_t rfl rfl (decide_eq_true hb1) rfl) ?_)
    refine l_of (s_val (v := .bool true) (wt0 rfl) rfl rfl (x_move rfl rfl) ?_)
    refine l_of (s_not (wn1 rfl rfl rfl rfl rfl) rfl rfl ?_)
    refine l_of (s_not (wn1 rfl rfl rfl rfl rfl) rfl rfl ?_)
    refine l_of (s_not (wn1 rfl rfl rfl rfl rfl) rfl rfl ?_)
    refine l_of (s_val (v := .bool true) (wt0 rfl) rfl rfl (x_pick_t rfl rfl rfl rfl) ?_)
    refine g_nil ?_
    refine g_then ?_
    refine g_weak [(0, .string seed), (1, .int .i64 pc), (2, .slice p n c), (47, .bool true)] ⟨rfl, rfl, rfl, rfl, trivial⟩ ?_
    refine g_cond_t rfl rfl ?_
    refine g_seq ?_
    refine g_region ?_
    refine l_of (s_call (wt0 rfl) (x_call' rfl rfl cl4) (awake_s _) ?_)
    rintro _ wq2 ⟨rfl, H3⟩
    replace H3 : S wq2 [Old w no] := H0.absorb (new := []) H3
    refine b_ret rfl rfl ?_
    refine l_of (s_val (v := .bool true) (wt0 rfl) rfl rfl (x_assign rfl rfl) ?_)
    refine g_nil ?_
    refine g_then ?_
    refine g_ret ?_
    refine g_then_ret ?_
    refine fin_ret [.tmp 6] [.bool true] rfl ⟨rfl, trivial⟩ ?_
    exact ⟨rfl, H3.mask [true]⟩
  · skip
    refine l_of (s_val (v := .slice p n c) (wt1 rfl rfl rfl rfl (decide_eq_false hb1)) rfl rfl (x_move rfl rfl) ?_)
    refine l_of (s_val (v := .int .i64 ((n : Int))) (wt1 rfl rfl rfl rfl (decide_eq_false hb1)) rfl rfl (x_lenl rfl rfl Tryd.underlying22) ?_)
    refine l_of (s_val (v := .bool (decide ((100 : Int) < (n : Int)))) (wt1 rfl rfl rfl rfl (decide_eq_false hb1)) rfl rfl (x_bin rfl rfl rfl b_gtr) ?_)
    refine l_of (s_val (v := .bool (decide ((100 : Int) < (n : Int)))) (wt0 rfl) rfl rfl (x_pick_f rfl rfl (decide_eq_false hb1) rfl) ?_)
    refine l_of (s_val (v := .bool (decide ((100 : Int) < (n : Int)))) (wt0 rfl) rfl rfl (x_move rfl rfl) ?_)
    by_cases hb4 : (100 : Int) < (n : Int)
    · skip
      refine l_of (s_not (wn1 rfl rfl rfl rfl (decide_eq_true hb4)) rfl rfl ?_)
      refine l_of (s_not (wn1 rfl rfl rfl rfl (decide_eq_true hb4)) rfl rfl ?_)
      refine l_of (s_not (wn1 rfl rfl rfl rfl (decide_eq_true hb4)) rfl rfl ?_)
      refine l_of (s_val (v := .bool true) (wt0 rfl) rfl rfl (x_pick_t rfl rfl (decide_eq_true hb4) rfl) ?_)
      refine g_nil ?_
      refine g_then ?_
      refine g_weak [(0, .string seed), (1, .int .i64 pc), (2, .slice p n c), (47, .bool true)] ⟨rfl, rfl, rfl, rfl, trivial⟩ ?_
      refine g_cond_t rfl rfl ?_
      refine g_seq ?_
      refine g_region ?_
      refine l_of (s_call (wt0 rfl) (x_call' rfl rfl cl4) (awake_s _) ?_)
      rintro _ wq5 ⟨rfl, H6⟩
      replace H6 : S wq5 [Old w no] := H0.absorb (new := []) H6
      refine b_ret rfl rfl ?_
      refine l_of (s_val (v := .bool true) (wt0 rfl) rfl rfl (x_assign rfl rfl) ?_)
      refine g_nil ?_
      refine g_then ?_
      refine g_ret ?_
      refine g_then_ret ?_
      refine fin_ret [.tmp 6] [.bool true] rfl ⟨rfl, trivial⟩ ?_
      exact ⟨rfl, H6.mask [true]⟩
    · skip
      refine l_of (s_val (v := .string seed) (wt1 rfl rfl rfl rfl (decide_eq_false hb4)) rfl rfl (x_move rfl rfl) ?_)
      refine l_of (s_val (v := .int .i64 ((seed.size : Int))) (wt1 rfl rfl rfl rfl (decide_eq_false hb4)) rfl rfl (x_lens rfl rfl Tryd.underlying9) ?_)
      refine l_of (s_val (v := .bool (decide ((200 : Int) < (seed.size : Int)))) (wt1 rfl rfl rfl rfl (decide_eq_false hb4)) rfl rfl (x_bin rfl rfl rfl b_gtr) ?_)
      refine l_of (s_val (v := .bool (decide ((200 : Int) < (seed.size : Int)))) (wt0 rfl) rfl rfl (x_pick_f rfl rfl (decide_eq_false hb4) rfl) ?_)
      refine g_nil ?_
      refine g_then ?_
      refine g_weak [(0, .string seed), (1, .int .i64 pc), (2, .slice p n c), (47, .bool (decide ((200 : Int) < (seed.size : Int))))] ⟨rfl, rfl, rfl, rfl, trivial⟩ ?_
      by_cases hb7 : (200 : Int) < (seed.size : Int)
      · skip
        refine g_cond_t rfl (decide_eq_true hb7) ?_
        refine g_seq ?_
        refine g_region ?_
        refine l_of (s_call (wt0 rfl) (x_call' rfl rfl cl4) (awake_s _) ?_)
        rintro _ wq8 ⟨rfl, H9⟩
        replace H9 : S wq8 [Old w no] := H0.absorb (new := []) H9
        refine b_ret rfl rfl ?_
        refine l_of (s_val (v := .bool true) (wt0 rfl) rfl rfl (x_assign rfl rfl) ?_)
        refine g_nil ?_
        refine g_then ?_
        refine g_ret ?_
        refine g_then_ret ?_
        refine fin_ret [.tmp 6] [.bool true] rfl ⟨rfl, trivial⟩ ?_
        exact ⟨rfl, H9.mask [true]⟩
      · skip
        refine g_cond_f rfl (decide_eq_false hb7) ?_
        refine g_skip ?_
        refine g_then ?_
        refine g_seq ?_
        refine g_region ?_
        refine l_of (s_val (v := .string seed) (wt0 rfl) rfl rfl (x_move rfl rfl) ?_)
        refine l_of (s_val (v := .int .i64 pc) (wt0 rfl) rfl rfl (x_move rfl rfl) ?_)
        refine l_of (s_call (wt0 rfl) (x_call' rfl rfl cl5) (new_x seed pc _) ?_)
        rintro ee14 wq12 hor15
        rcases hor15 with ⟨hne, rfl, H13⟩ | ⟨hnz, Y10, hYA11, rfl, H13⟩
        · skip
          replace H13 : S wq12 [Old w no] := H0.absorb (new := []) H13
          refine b_ret rfl rfl ?_
          refine l_of (s_val (v := .tuple #[.pointer none, .int .i64 ((newE seed pc))]) (wt0 rfl) rfl rfl (x_move rfl rfl) ?_)
          refine l_of (s_val (v := .pointer none) (wt0 rfl) rfl rfl (x_extract rfl rfl rfl) ?_)
          refine l_of (s_val (v := .int .i64 ((newE seed pc))) (wt0 rfl) rfl rfl (x_extract rfl rfl rfl) ?_)
          refine l_of (s_val (v := .pointer none) (wt0 rfl) rfl rfl (x_assign rfl rfl) ?_)
          refine l_of (s_val (v := .int .i64 ((newE seed pc))) (wt0 rfl) rfl rfl (x_assign rfl rfl) ?_)
          refine g_nil ?_
          refine g_then ?_
          refine g_seq ?_
          refine g_region ?_
          refine l_of (s_val (v := .string seed) (wt0 rfl) rfl rfl (x_move rfl rfl) ?_)
          refine l_of (s_val (v := .int .i64 pc) (wt0 rfl) rfl rfl (x_move rfl rfl) ?_)
          refine l_of (s_call (wt0 rfl) (x_call' rfl rfl cl6) (new_r seed pc _) ?_)
          rintro ee20 wq18 hor21
          rcases hor21 with ⟨hne, rfl, H19⟩ | ⟨hnz, Y16, hYA17, rfl, H19⟩
          · skip
            replace H19 : S wq18 [Old w no] := H13.absorb (new := []) H19
            refine b_ret rfl rfl ?_
            refine l_of (s_val (v := .tuple #[.pointer none, .int .i64 ((newE seed pc))]) (wt0 rfl) rfl rfl (x_move rfl rfl) ?_)
            refine l_of (s_val (v := .pointer none) (wt0 rfl) rfl rfl (x_extract rfl rfl rfl) ?_)
            refine l_of (s_val (v := .int .i64 ((newE seed pc))) (wt0 rfl) rfl rfl (x_extract rfl rfl rfl) ?_)
            refine l_of (s_val (v := .pointer none) (wt0 rfl) rfl rfl (x_assign rfl rfl) ?_)
            refine l_of (s_val (v := .int .i64 ((newE seed pc))) (wt0 rfl) rfl rfl (x_assign rfl rfl) ?_)
            refine g_nil ?_
            refine g_then ?_
            refine g_weak [(1, .int .i64 pc), (2, .slice p n c), (7, .pointer none), (8, .int .i64 ((newE seed pc))), (9, .pointer none), (10, .int .i64 ((newE seed pc)))] ⟨rfl, rfl, rfl, rfl, rfl, rfl, trivial⟩ ?_
            refine g_seq ?_
            refine g_seq ?_
            refine g_region ?_
            refine l_of (s_val (v := .int .i64 ((newE seed pc))) (wt0 rfl) rfl rfl (x_move rfl rfl) ?_)
            refine l_of (s_val (v := .int .i64 ((newE seed pc))) (wt0 rfl) rfl rfl (x_move rfl rfl) ?_)
            refine l_of (s_val (v := .bool (!decide (((newE seed pc) : Int) = (newE seed pc)))) (wt0 rfl) rfl rfl (x_bin rfl rfl rfl b_neq) ?_)
            refine l_of (s_val (v := .bool (!decide (((newE seed pc) : Int) = (newE seed pc)))) (wt0 rfl) rfl rfl (x_move rfl rfl) ?_)
            refine l_of (s_val (v := .int .i64 ((newE seed pc))) (wt1 rfl rfl rfl rfl (nf rfl)) rfl rfl (x_move rfl rfl) ?_)
            refine l_of (s_val (v := .bool (!decide (((newE seed pc) : Int) = 0))) (wt1 rfl rfl rfl rfl (nf rfl)) rfl rfl (x_bin rfl rfl rfl b_neq) ?_)
            refine l_of (s_val (v := .bool (!decide (((newE seed pc) : Int) = 0))) (wt0 rfl) rfl rfl (x_pick_f rfl rfl (nf rfl) rfl) ?_)
            refine g_nil ?_
            refine g_then ?_
            refine g_cond_t rfl (nt hne) ?_
            refine g_seq ?_
            refine g_region ?_
            refine l_of (s_val (v := .int .i64 ((newE seed pc))) (wt0 rfl) rfl rfl (x_move rfl rfl) ?_)
            refine l_of (s_val (v := .int .i64 ((newE seed pc))) (wt0 rfl) rfl rfl (x_move rfl rfl) ?_)
            refine l_of (s_val (v := .bool (decide (((newE seed pc) : Int) = (newE seed pc)))) (wt0 rfl) rfl rfl (x_bin rfl rfl rfl b_eql) ?_)
            refine l_of (s_val (v := .bool (decide (((newE seed pc) : Int) = (newE seed pc)))) (wt0 rfl) rfl rfl (x_move rfl rfl) ?_)
            refine l_of (s_val (v := .pointer none) (wt1 rfl rfl rfl rfl (decide_eq_true rfl)) rfl rfl (x_move rfl rfl) ?_)
            refine l_of (s_val (v := .bool true) (wt1 rfl rfl rfl rfl (decide_eq_true rfl)) rfl rfl (x_bin rfl rfl rfl (b_eqN (r := true) Tryd.underlying24 rfl)) ?_)
            refine l_of (s_val (v := .bool true) (wt0 rfl) rfl rfl (x_pick_t rfl rfl (decide_eq_true rfl) rfl) ?_)
            refine l_of (s_val (v := .bool true) (wt0 rfl) rfl rfl (x_move rfl rfl) ?_)
            refine l_of (s_call (wt1 rfl rfl rfl rfl rfl) (x_call' rfl rfl cl4) (awake_s _) ?_)
            rintro _ wq22 ⟨rfl, H23⟩
            replace H23 : S wq22 [Old w no] := H19.absorb (new := []) H23
            refine b_ret rfl rfl ?_
            refine l_of (s_val (v := .bool true) (wt0 rfl) rfl rfl (x_pick_t rfl rfl rfl rfl) ?_)
            refine l_of (s_val (v := .bool true) (wt0 rfl) rfl rfl (x_assign rfl rfl) ?_)
            refine g_nil ?_
            refine g_then ?_
            refine g_weak [(6, .bool true)] ⟨rfl, trivial⟩ ?_
            refine g_ret ?_
            refine g_then_ret ?_
            refine fin_ret [.tmp 6] [.bool true] rfl ⟨rfl, trivial⟩ ?_
            exact ⟨rfl, H23.mask [true]⟩
          · skip
            exact absurd hnz hne
        · skip
          replace H13 : S wq12 [Y10.I, Old w no] := H0.absorb (new := [Y10.I]) H13
          refine b_ret rfl rfl ?_
          refine l_of (s_val (v := .tuple #[.pointer (some ⟨Y10.g, 0, none⟩), .int .i64 0]) (wt0 rfl) rfl rfl (x_move rfl rfl) ?_)
          refine l_of (s_val (v := .pointer (some ⟨Y10.g, 0, none⟩)) (wt0 rfl) rfl rfl (x_extract rfl rfl rfl) ?_)
          refine l_of (s_val (v := .int .i64 0) (wt0 rfl) rfl rfl (x_extract rfl rfl rfl) ?_)
          refine l_of (s_val (v := .pointer (some ⟨Y10.g, 0, none⟩)) (wt0 rfl) rfl rfl (x_assign rfl rfl) ?_)
          refine l_of (s_val (v := .int .i64 0) (wt0 rfl) rfl rfl (x_assign rfl rfl) ?_)
          refine g_nil ?_
          refine g_then ?_
          refine g_seq ?_
          refine g_region ?_
          refine l_of (s_val (v := .string seed) (wt0 rfl) rfl rfl (x_move rfl rfl) ?_)
          refine l_of (s_val (v := .int .i64 pc) (wt0 rfl) rfl rfl (x_move rfl rfl) ?_)
          refine l_of (s_call (wt0 rfl) (x_call' rfl rfl cl6) (new_r seed pc _) ?_)
          rintro ee28 wq26 hor29
          rcases hor29 with ⟨hne, rfl, H27⟩ | ⟨hnz, Y24, hYA25, rfl, H27⟩
          · skip
            exact absurd hnz hne
          · skip
            replace H27 : S wq26 [Y24.I, Y10.I, Old w no] := H13.absorb (new := [Y24.I]) H27
            refine b_ret rfl rfl ?_
            refine l_of (s_val (v := .tuple #[.pointer (some ⟨Y24.h, 0, none⟩), .int .i64 0]) (wt0 rfl) rfl rfl (x_move rfl rfl) ?_)
            refine l_of (s_val (v := .pointer (some ⟨Y24.h, 0, none⟩)) (wt0 rfl) rfl rfl (x_extract rfl rfl rfl) ?_)
            refine l_of (s_val (v := .int .i64 0) (wt0 rfl) rfl rfl (x_extract rfl rfl rfl) ?_)
            refine l_of (s_val (v := .pointer (some ⟨Y24.h, 0, none⟩)) (wt0 rfl) rfl rfl (x_assign rfl rfl) ?_)
            refine l_of (s_val (v := .int .i64 0) (wt0 rfl) rfl rfl (x_assign rfl rfl) ?_)
            refine g_nil ?_
            refine g_then ?_
            refine g_weak [(1, .int .i64 pc), (2, .slice p n c), (7, .pointer (some ⟨Y10.g, 0, none⟩)), (8, .int .i64 0), (9, .pointer (some ⟨Y24.h, 0, none⟩)), (10, .int .i64 0)] ⟨rfl, rfl, rfl, rfl, rfl, rfl, trivial⟩ ?_
            refine g_seq ?_
            refine g_seq ?_
            refine g_region ?_
            refine l_of (s_val (v := .int .i64 0) (wt0 rfl) rfl rfl (x_move rfl rfl) ?_)
            refine l_of (s_val (v := .int .i64 0) (wt0 rfl) rfl rfl (x_move rfl rfl) ?_)
            refine l_of (s_val (v := .bool (!decide ((0 : Int) = 0))) (wt0 rfl) rfl rfl (x_bin rfl rfl rfl b_neq) ?_)
            refine l_of (s_val (v := .bool (!decide ((0 : Int) = 0))) (wt0 rfl) rfl rfl (x_move rfl rfl) ?_)
            refine l_of (s_val (v := .int .i64 0) (wt1 rfl rfl rfl rfl (nf rfl)) rfl rfl (x_move rfl rfl) ?_)
            refine l_of (s_val (v := .bool (!decide ((0 : Int) = 0))) (wt1 rfl rfl rfl rfl (nf rfl)) rfl rfl (x_bin rfl rfl rfl b_neq) ?_)
            refine l_of (s_val (v := .bool (!decide ((0 : Int) = 0))) (wt0 rfl) rfl rfl (x_pick_f rfl rfl (nf rfl) rfl) ?_)
            refine g_nil ?_
            refine g_then ?_
            refine g_cond_f rfl (nf rfl) ?_
            refine g_skip ?_
            refine g_then ?_
            refine g_seq ?_
            refine g_seq ?_
            refine g_region ?_
            refine l_of (s_val (v := .slice p n c) (wt0 rfl) rfl rfl (x_move rfl rfl) ?_)
            refine l_of (s_val (v := .int .i64 ((n : Int))) (wt0 rfl) rfl rfl (x_lenl rfl rfl Tryd.underlying22) ?_)
            refine l_of (s_val (v := .int .i64 0) (wt0 rfl) rfl rfl (x_move rfl rfl) ?_)
            refine g_nil ?_
            refine g_then ?_
            refine g_block ?_
            have hp0 := new_pj hnz (by omega)
            refine g_loop (ι := Nat × XM × RM × SP) (fun (j9, X, Z, A) => [(1, .int .i64 pc), (7, .pointer (some ⟨Y10.g, 0, none⟩)), (9, .pointer (some ⟨Y24.h, 0, none⟩)), (78, .slice p n c), (79, .int .i64 ((n : Int))), (80, .int .i64 ((j9 : Int)))]) (fun (j9, X, Z, A) wx => (j9 ≤ n) ∧ (PJ j9 A) ∧ (X.g = Y10.g) ∧ (X.A = A) ∧ (Z.h = Y24.h) ∧ (Z.A = A) ∧ (A.n = pc.toNat) ∧ S wx [X.I, Z.I, Old w no]) (fun (j9, X, Z, A) => n - j9) (0, Y10, Y24, (⟨seed, pc.toNat, []⟩ : SP)) ⟨rfl, rfl, rfl, rfl, rfl, rfl, trivial⟩ ⟨Nat.zero_le _, hp0, rfl, hYA11, rfl, hYA25, rfl, (H27.takes [1, 0, 2] (by decide))⟩ ?_
            rintro ⟨j9, X, Z, A⟩ wq30 ⟨hj9, hPJ, hXg, hXA, hZg, hZA, hAn, H31⟩
            replace H31 : S wq30 [X.I, Z.I, Old w no] := H31
            refine g_weak [(1, .int .i64 pc), (7, .pointer (some ⟨Y10.g, 0, none⟩)), (9, .pointer (some ⟨Y24.h, 0, none⟩)), (78, .slice p n c), (79, .int .i64 ((n : Int))), (80, .int .i64 ((j9 : Int)))] ⟨rfl, rfl, rfl, rfl, rfl, rfl, trivial⟩ ?_
            refine g_seq ?_
            refine g_region ?_
            refine l_of (s_val (v := .bool (decide (((j9 : Int) : Int) < (n : Int)))) (wt0 rfl) rfl rfl (x_bin rfl rfl rfl b_lss) ?_)
            refine g_nil ?_
            refine g_then ?_
            refine g_seq ?_
            by_cases hb32 : ((j9 : Int) : Int) < (n : Int)
            · skip
              refine g_cond_t rfl (decide_eq_true hb32) ?_
              refine g_skip ?_
              refine g_then ?_
              refine g_seq ?_
              refine g_block ?_
              refine g_seq ?_
              refine g_region ?_
              refine l_of (s_val (v := .pointer ((p).map fun q => q.add (j9 * 3))) (wt0 rfl) rfl rfl (x_idxR j9 (H31.exReads (k := 2) rfl hr (fun _ _ _ h => h)) rfl rfl rfl Tryd.underlying22 sz32 (by omega)) ?_)
              have hlq := (H31.exReads (k := 2) rfl hr (fun _ _ _ h => h)).lenL actE
              obtain ⟨x33, hx33⟩ := ex_at (l := l) (j := j9) (by omega)
              clear hlq
              refine l_of (s_val (v := .agg #[.int .i64 (x33.kind), .int .i64 (x33.id), .int .i64 (x33.pc)]) (wt0 rfl) rfl rfl (x_loadRA (vs := actL x33) j9 (H31.exReads (k := 2) rfl hr (fun _ _ _ h => h)) (by omega) rfl rfl Tryd.underlying32 rfl sz32 (by rfl) (actE.flAt hx33)) ?_)
              refine l_of (s_alloc H31 (wt0 rfl) rfl rfl rfl ze32 ?_)
              intro g34 wq35 H36
              refine l_of (s_store H36 0 (wt0 rfl) rfl rfl rfl rfl rfl sz32 rfl rfl (cs' := #[.int .i64 (x33.kind), .int .i64 (x33.id), .int .i64 (x33.pc)]) rfl ?_)
              intro wq37 H38
              refine g_nil ?_
              refine g_then ?_
              refine g_seq ?_
              refine g_region ?_
              refine l_of (s_val (v := .bool true) (wt0 rfl) rfl rfl (x_assign rfl rfl) ?_)
              refine g_nil ?_
              refine g_then ?_
              refine g_seq ?_
              refine g_seq ?_
              refine g_region ?_
              refine l_of (s_val (v := .pointer (some ⟨g34, 0, none⟩)) (wt0 rfl) rfl rfl (x_fieldAddr rfl rfl fo32_0 rfl) ?_)
              refine l_of (s_val (v := .int .i64 (x33.kind)) (wt0 rfl) rfl rfl (x_load1 H38 0 rfl rfl Tryd.underlying3 rfl rfl rfl) ?_)
              refine g_nil ?_
              refine g_then ?_
              refine g_block ?_
              refine g_seq ?_
              refine g_seq ?_
              refine g_region ?_
              refine l_of (s_val (v := .bool (decide ((x33.kind : Int) = 1))) (wt0 rfl) rfl rfl (x_bin rfl rfl rfl b_eql) ?_)
              refine l_of (s_val (v := .bool (decide ((x33.kind : Int) = 1))) (wt0 rfl) rfl rfl (x_assign rfl rfl) ?_)
              refine g_nil ?_
              refine g_then ?_
              by_cases hb39 : (x33.kind : Int) = 1
              · skip
                refine g_cond_t rfl (decide_eq_true hb39) ?_
                refine g_skip ?_
                refine g_then ?_
                refine g_cond_t rfl (decide_eq_true hb39) ?_
                refine g_any [] (fun wx => S wx [Ob g34 (.cells #[.int .i64 (x33.kind), .int .i64 (x33.id), .int .i64 (x33.pc)] 32 (0, 0))]) [] (by kernel_rfl) H38 (fun wq40 H41 => ?_)
                refine a_take (v := .pointer (some ⟨Y10.g, 0, none⟩)) 0 rfl (wt0 rfl) rfl rfl rfl (by kernel_rfl) (by kernel_rfl) (by kernel_rfl) (by kernel_rfl) (H41.mask [true, false, false, false]) (fun wx H => x_move rfl rfl) ?_
                refine a_take (v := .pointer (some ⟨g34, 1, none⟩)) 1 rfl (wt0 rfl) rfl rfl rfl (by kernel_rfl) (by kernel_rfl) (by kernel_rfl) (by kernel_rfl) (H41.mask [true, false, false, false]) (fun wx H => x_fieldAddr rfl rfl fo32_1 rfl) ?_
                refine a_take (v := .int .i64 (x33.id)) 2 rfl (wt0 rfl) rfl rfl rfl (by kernel_rfl) (by kernel_rfl) (by kernel_rfl) (by kernel_rfl) (H41.mask [true, false, false, false]) (fun wx H => x_load1 H 0 rfl rfl Tryd.underlying3 rfl rfl rfl) ?_
                refine a_take (v := .pointer (some ⟨Y24.h, 0, none⟩)) 4 rfl (wt0 rfl) rfl rfl rfl (by kernel_rfl) (by kernel_rfl) (by kernel_rfl) (by kernel_rfl) (H41.mask [true, false, false, false]) (fun wx H => x_move rfl rfl) ?_
                refine a_take (v := .pointer (some ⟨g34, 1, none⟩)) 5 rfl (wt0 rfl) rfl rfl rfl (by kernel_rfl) (by kernel_rfl) (by kernel_rfl) (by kernel_rfl) (H41.mask [true, false, false, false]) (fun wx H => x_fieldAddr rfl rfl fo32_1 rfl) ?_
                refine a_take (v := .int .i64 (x33.id)) 6 rfl (wt0 rfl) rfl rfl rfl (by kernel_rfl) (by kernel_rfl) (by kernel_rfl) (by kernel_rfl) (H41.mask [true, false, false, false]) (fun wx H => x_load1 H 0 rfl rfl Tryd.underlying3 rfl rfl rfl) ?_
                refine a_one (i := 3) (by kernel_rfl) rfl ?_
                refine s_call (wt0 rfl) (x_call' rfl rfl cl7) (come_gx (id := x33.id) hPJ (by omega) hXg hXA (hok _ (List.mem_of_getElem? hx33)).1 _ (H41.takes [1] (by decide))) ?_
                rintro _ wq45 ⟨Y42, hYg43, hYA44, rfl, H46⟩
                replace H46 : S wq45 [Y42.I, Ob g34 (.cells #[.int .i64 (x33.kind), .int .i64 (x33.id), .int .i64 (x33.pc)] 32 (0, 0)), Z.I, Old w no] := H41.absorbI (new := [Y42.I]) [1] H46
                refine b_ret rfl rfl ?_
                refine a_k (H46.mask [false, true, false, false]) ?_
                refine a_one (i := 7) (by kernel_rfl) rfl ?_
                refine s_call (wt0 rfl) (x_call' rfl rfl cl8) (come_gr (id := x33.id) hPJ (by omega) hZg hZA _ (H46.takes [2] (by decide))) ?_
                rintro _ wq50 ⟨Y47, hYg48, hYA49, rfl, H51⟩
                replace H51 : S wq50 [Y47.I, Y42.I, Ob g34 (.cells #[.int .i64 (x33.kind), .int .i64 (x33.id), .int .i64 (x33.pc)] 32 (0, 0)), Old w no] := H46.absorbI (new := [Y47.I]) [2] H51
                refine b_ret rfl rfl ?_
                refine a_k (H51.mask [false, false, true, false]) ?_
                refine a_take (v := .bool (decide (((comeE A x33.id) : Int) = (comeE A x33.id)))) 8 rfl (wt0 rfl) rfl rfl rfl (by kernel_rfl) (by kernel_rfl) (by kernel_rfl) (by kernel_rfl) (H51.mask [false, false, true, false]) (fun wx H => x_bin rfl rfl rfl b_eql) ?_
                refine a_take (v := .bool (decide (((comeE A x33.id) : Int) = (comeE A x33.id)))) 9 rfl (wt0 rfl) rfl rfl rfl (by kernel_rfl) (by kernel_rfl) (by kernel_rfl) (by kernel_rfl) (H51.mask [false, false, true, false]) (fun wx H => x_assign rfl rfl) ?_
                refine a_done (by kernel_rfl) ?_
                refine g_in ?_
                refine g_then ?_
                refine g_weak [(1, .int .i64 pc), (7, .pointer (some ⟨Y10.g, 0, none⟩)), (9, .pointer (some ⟨Y24.h, 0, none⟩)), (12, .pointer (some ⟨g34, 0, none⟩)), (13, .bool (decide (((comeE A x33.id) : Int) = (comeE A x33.id)))), (78, .slice p n c), (79, .int .i64 ((n : Int))), (80, .int .i64 ((j9 : Int)))] ⟨rfl, rfl, rfl, rfl, rfl, rfl, rfl, rfl, trivial⟩ ?_
                refine g_seq ?_
                refine g_region ?_
                have hPJ2 := (hPJ.come (hok _ (List.mem_of_getElem? hx33)).1)
                refine l_of (s_val (v := .pointer (some ⟨Y10.g, 0, none⟩)) (wt0 rfl) rfl rfl (x_move rfl rfl) ?_)
                refine l_of (s_val (v := .pointer (some ⟨g34, 1, none⟩)) (wt0 rfl) rfl rfl (x_fieldAddr rfl rfl fo32_1 rfl) ?_)
                refine l_of (s_val (v := .int .i64 (x33.id)) (wt0 rfl) rfl rfl (x_load1 H51 2 rfl rfl Tryd.underlying3 rfl rfl rfl) ?_)
                refine l_of (s_call (wt0 rfl) (x_call' rfl rfl cl18) (told_gx (id := x33.id) hPJ2 (by omega) hYg43 hYA44 (hok _ (List.mem_of_getElem? hx33)).1 _ (H51.takes [1] (by decide))) ?_)
                rintro _ wq55 ⟨pt52, ct53, rfl, H56⟩
                replace H56 : S wq55 [Rw 3 1 pt52 ((toldV (comeA A x33.id) x33.id).length) ct53 (fl intL (toldV (comeA A x33.id) x33.id)), Y42.I, Y47.I, Ob g34 (.cells #[.int .i64 (x33.kind), .int .i64 (x33.id), .int .i64 (x33.pc)] 32 (0, 0)), Old w no] := H51.absorbI (new := [Rw 3 1 pt52 ((toldV (comeA A x33.id) x33.id).length) ct53 (fl intL (toldV (comeA A x33.id) x33.id)), Y42.I]) [1] H56
                have hl54 := toldV_len hPJ2 x33.id
                refine b_ret rfl rfl ?_
                refine l_of (s_val (v := .tuple #[.slice pt52 ((toldV (comeA A x33.id) x33.id).length) ct53, .int .i64 ((findE (comeA A x33.id) x33.id))]) (wt0 rfl) rfl rfl (x_move rfl rfl) ?_)
                refine l_of (s_val (v := .slice pt52 ((toldV (comeA A x33.id) x33.id).length) ct53) (wt0 rfl) rfl rfl (x_extract rfl rfl rfl) ?_)
                refine l_of (s_val (v := .int .i64 ((findE (comeA A x33.id) x33.id))) (wt0 rfl) rfl rfl (x_extract rfl rfl rfl) ?_)
                refine l_of (s_val (v := .slice pt52 ((toldV (comeA A x33.id) x33.id).length) ct53) (wt0 rfl) rfl rfl (x_assign rfl rfl) ?_)
                refine l_of (s_val (v := .int .i64 ((findE (comeA A x33.id) x33.id))) (wt0 rfl) rfl rfl (x_assign rfl rfl) ?_)
                refine g_nil ?_
                refine g_then ?_
                refine g_seq ?_
                refine g_region ?_
                refine l_of (s_val (v := .pointer (some ⟨Y24.h, 0, none⟩)) (wt0 rfl) rfl rfl (x_move rfl rfl) ?_)
                refine l_of (s_val (v := .pointer (some ⟨g34, 1, none⟩)) (wt0 rfl) rfl rfl (x_fieldAddr rfl rfl fo32_1 rfl) ?_)
                refine l_of (s_val (v := .int .i64 (x33.id)) (wt0 rfl) rfl rfl (x_load1 H56 3 rfl rfl Tryd.underlying3 rfl rfl rfl) ?_)
                refine l_of (s_call (wt0 rfl) (x_call' rfl rfl cl13) (told_gr (id := x33.id) hPJ2 (by omega) hYg48 hYA49 _ (H56.takes [2] (by decide))) ?_)
                rintro _ wq61 ⟨pt57, ct58, rfl, hT60, H62⟩
                replace H62 : S wq61 [Y47.I, Rw 3 1 pt52 ((toldV (comeA A x33.id) x33.id).length) ct53 (fl intL (toldV (comeA A x33.id) x33.id)), Y42.I, Ob g34 (.cells #[.int .i64 (x33.kind), .int .i64 (x33.id), .int .i64 (x33.pc)] 32 (0, 0)), Old w no] := H56.absorbI (new := [Y47.I]) [2] H62
                have hl59 := toldV_len hPJ2 x33.id
                refine b_ret rfl rfl ?_
                refine l_of (s_val (v := .tuple #[.slice pt57 ((toldV (comeA A x33.id) x33.id).length) ct58, .int .i64 ((findE (comeA A x33.id) x33.id))]) (wt0 rfl) rfl rfl (x_move rfl rfl) ?_)
                refine l_of (s_val (v := .slice pt57 ((toldV (comeA A x33.id) x33.id).length) ct58) (wt0 rfl) rfl rfl (x_extract rfl rfl rfl) ?_)
                refine l_of (s_val (v := .int .i64 ((findE (comeA A x33.id) x33.id))) (wt0 rfl) rfl rfl (x_extract rfl rfl rfl) ?_)
                refine l_of (s_val (v := .slice pt57 ((toldV (comeA A x33.id) x33.id).length) ct58) (wt0 rfl) rfl rfl (x_assign rfl rfl) ?_)
                refine l_of (s_val (v := .int .i64 ((findE (comeA A x33.id) x33.id))) (wt0 rfl) rfl rfl (x_assign rfl rfl) ?_)
                refine g_nil ?_
                refine g_then ?_
                refine g_weak [(1, .int .i64 pc), (7, .pointer (some ⟨Y10.g, 0, none⟩)), (9, .pointer (some ⟨Y24.h, 0, none⟩)), (12, .pointer (some ⟨g34, 0, none⟩)), (13, .bool (decide (((comeE A x33.id) : Int) = (comeE A x33.id)))), (26, .slice pt52 ((toldV (comeA A x33.id) x33.id).length) ct53), (27, .int .i64 ((findE (comeA A x33.id) x33.id))), (28, .slice pt57 ((toldV (comeA A x33.id) x33.id).length) ct58), (29, .int .i64 ((findE (comeA A x33.id) x33.id))), (78, .slice p n c), (79, .int .i64 ((n : Int))), (80, .int .i64 ((j9 : Int)))] ⟨rfl, rfl, rfl, rfl, rfl, rfl, rfl, rfl, rfl, rfl, rfl, rfl, trivial⟩ ?_
                refine g_seq ?_
                refine g_region ?_
                refine l_of (s_val (v := .pointer (some ⟨Y10.g, 0, none⟩)) (wt0 rfl) rfl rfl (x_move rfl rfl) ?_)
                refine l_of (s_val (v := .pointer (some ⟨g34, 2, none⟩)) (wt0 rfl) rfl rfl (x_fieldAddr rfl rfl fo32_2 rfl) ?_)
                refine l_of (s_val (v := .int .i64 (x33.pc)) (wt0 rfl) rfl rfl (x_load1 H62 3 rfl rfl Tryd.underlying3 rfl rfl rfl) ?_)
                refine l_of (s_call (wt0 rfl) (x_call' rfl rfl cl19) (count_gx (k := x33.pc) hPJ2 (by omega) hYg43 hYA44 _ (H62.takes [2] (by decide))) ?_)
                rintro _ wq63 ⟨rfl, H64⟩
                replace H64 : S wq63 [Y42.I, Y47.I, Rw 3 1 pt52 ((toldV (comeA A x33.id) x33.id).length) ct53 (fl intL (toldV (comeA A x33.id) x33.id)), Ob g34 (.cells #[.int .i64 (x33.kind), .int .i64 (x33.id), .int .i64 (x33.pc)] 32 (0, 0)), Old w no] := H62.absorbI (new := [Y42.I]) [2] H64
                refine b_ret rfl rfl ?_
                refine l_of (s_val (v := .tuple #[.int .i64 ((countT (comeA A x33.id) x33.pc)), .int .i64 ((countH (comeA A x33.id) x33.pc)), .int .i64 ((countE (comeA A x33.id) x33.pc))]) (wt0 rfl) rfl rfl (x_move rfl rfl) ?_)
                refine l_of (s_val (v := .int .i64 ((countT (comeA A x33.id) x33.pc))) (wt0 rfl) rfl rfl (x_extract rfl rfl rfl) ?_)
                refine l_of (s_val (v := .int .i64 ((countH (comeA A x33.id) x33.pc))) (wt0 rfl) rfl rfl (x_extract rfl rfl rfl) ?_)
                refine l_of (s_val (v := .int .i64 ((countE (comeA A x33.id) x33.pc))) (wt0 rfl) rfl rfl (x_extract rfl rfl rfl) ?_)
                refine l_of (s_val (v := .int .i64 ((countT (comeA A x33.id) x33.pc))) (wt0 rfl) rfl rfl (x_assign rfl rfl) ?_)
                refine l_of (s_val (v := .int .i64 ((countH (comeA A x33.id) x33.pc))) (wt0 rfl) rfl rfl (x_assign rfl rfl) ?_)
                refine l_of (s_val (v := .int .i64 ((countE (comeA A x33.id) x33.pc))) (wt0 rfl) rfl rfl (x_assign rfl rfl) ?_)
                refine g_nil ?_
                refine g_then ?_
                refine g_seq ?_
                refine g_region ?_
                refine l_of (s_val (v := .pointer (some ⟨Y24.h, 0, none⟩)) (wt0 rfl) rfl rfl (x_move rfl rfl) ?_)
                refine l_of (s_val (v := .pointer (some ⟨g34, 2, none⟩)) (wt0 rfl) rfl rfl (x_fieldAddr rfl rfl fo32_2 rfl) ?_)
                refine l_of (s_val (v := .int .i64 (x33.pc)) (wt0 rfl) rfl rfl (x_load1 H64 3 rfl rfl Tryd.underlying3 rfl rfl rfl) ?_)
                refine l_of (s_call (wt0 rfl) (x_call' rfl rfl cl14) (count_gr (k := x33.pc) hPJ2 (by omega) hYg48 hYA49 _ (H64.takes [1] (by decide))) ?_)
                rintro _ wq65 ⟨rfl, H66⟩
                replace H66 : S wq65 [Y47.I, Y42.I, Rw 3 1 pt52 ((toldV (comeA A x33.id) x33.id).length) ct53 (fl intL (toldV (comeA A x33.id) x33.id)), Ob g34 (.cells #[.int .i64 (x33.kind), .int .i64 (x33.id), .int .i64 (x33.pc)] 32 (0, 0)), Old w no] := H64.absorbI (new := [Y47.I]) [1] H66
                refine b_ret rfl rfl ?_
                refine l_of (s_val (v := .tuple #[.int .i64 ((countT (comeA A x33.id) x33.pc)), .int .i64 ((countH (comeA A x33.id) x33.pc)), .int .i64 ((countE (comeA A x33.id) x33.pc))]) (wt0 rfl) rfl rfl (x_move rfl rfl) ?_)
                refine l_of (s_val (v := .int .i64 ((countT (comeA A x33.id) x33.pc))) (wt0 rfl) rfl rfl (x_extract rfl rfl rfl) ?_)
                refine l_of (s_val (v := .int .i64 ((countH (comeA A x33.id) x33.pc))) (wt0 rfl) rfl rfl (x_extract rfl rfl rfl) ?_)
                refine l_of (s_val (v := .int .i64 ((countE (comeA A x33.id) x33.pc))) (wt0 rfl) rfl rfl (x_extract rfl rfl rfl) ?_)
                refine l_of (s_val (v := .int .i64 ((countT (comeA A x33.id) x33.pc))) (wt0 rfl) rfl rfl (x_assign rfl rfl) ?_)
                refine l_of (s_val (v := .int .i64 ((countH (comeA A x33.id) x33.pc))) (wt0 rfl) rfl rfl (x_assign rfl rfl) ?_)
                refine l_of (s_val (v := .int .i64 ((countE (comeA A x33.id) x33.pc))) (wt0 rfl) rfl rfl (x_assign rfl rfl) ?_)
                refine g_nil ?_
                refine g_then ?_
                refine g_weak [(1, .int .i64 pc), (7, .pointer (some ⟨Y10.g, 0, none⟩)), (9, .pointer (some ⟨Y24.h, 0, none⟩)), (13, .bool (decide (((comeE A x33.id) : Int) = (comeE A x33.id)))), (26, .slice pt52 ((toldV (comeA A x33.id) x33.id).length) ct53), (27, .int .i64 ((findE (comeA A x33.id) x33.id))), (28, .slice pt57 ((toldV (comeA A x33.id) x33.id).length) ct58), (29, .int .i64 ((findE (comeA A x33.id) x33.id))), (30, .int .i64 ((countT (comeA A x33.id) x33.pc))), (31, .int .i64 ((countH (comeA A x33.id) x33.pc))), (32, .int .i64 ((countE (comeA A x33.id) x33.pc))), (33, .int .i64 ((countT (comeA A x33.id) x33.pc))), (34, .int .i64 ((countH (comeA A x33.id) x33.pc))), (35, .int .i64 ((countE (comeA A x33.id) x33.pc))), (78, .slice p n c), (79, .int .i64 ((n : Int))), (80, .int .i64 ((j9 : Int)))] ⟨rfl, rfl, rfl, rfl, rfl, rfl, rfl, rfl, rfl, rfl, rfl, rfl, rfl, rfl, rfl, rfl, rfl, trivial⟩ ?_
                refine g_seq ?_
                refine g_region ?_
                refine l_of (s_val (v := .bool (decide (((comeE A x33.id) : Int) = (comeE A x33.id)))) (wt0 rfl) rfl rfl (x_move rfl rfl) ?_)
                refine l_of (s_val (v := .bool (!decide (((comeE A x33.id) : Int) = (comeE A x33.id)))) (wt0 rfl) rfl rfl (x_not (b := decide (((comeE A x33.id) : Int) = (comeE A x33.id))) rfl rfl) ?_)
                refine l_of (s_val (v := .bool (!decide (((comeE A x33.id) : Int) = (comeE A x33.id)))) (wt0 rfl) rfl rfl (x_move rfl rfl) ?_)
                refine l_of (s_val (v := .slice pt52 ((toldV (comeA A x33.id) x33.id).length) ct53) (wt1 rfl rfl rfl rfl (nf rfl)) rfl rfl (x_move rfl rfl) ?_)
                refine l_of (s_val (v := .slice pt57 ((toldV (comeA A x33.id) x33.id).length) ct58) (wt1 rfl rfl rfl rfl (nf rfl)) rfl rfl (x_move rfl rfl) ?_)
                refine l_of (s_call (wt1 rfl rfl rfl rfl (nf rfl)) (x_call' rfl rfl cl20) (same_i (toldV (comeA A x33.id) x33.id) (by omega) pt52 ((toldV (comeA A x33.id) x33.id).length) ct53 pt57 ((toldV (comeA A x33.id) x33.id).length) ct58 _ (H66.rwReads (k := 2) rfl) ((hT60 _ (H66.takes [0] (by decide))))) ?_)
                rintro _ wq67 ⟨rfl, H68⟩
                replace H68 : S wq67 [Y47.I, Y42.I, Rw 3 1 pt52 ((toldV (comeA A x33.id) x33.id).length) ct53 (fl intL (toldV (comeA A x33.id) x33.id)), Ob g34 (.cells #[.int .i64 (x33.kind), .int .i64 (x33.id), .int .i64 (x33.pc)] 32 (0, 0)), Old w no] := H66.absorb (new := []) H68
                refine b_ret rfl rfl ?_
                refine l_of (s_val (v := .bool false) (wt1 rfl rfl rfl rfl (nf rfl)) rfl rfl (x_not (b := true) rfl rfl) ?_)
                refine l_of (s_val (v := .bool false) (wt0 rfl) rfl rfl (x_pick_f rfl rfl (nf rfl) rfl) ?_)
                refine l_of (s_val (v := .bool false) (wt0 rfl) rfl rfl (x_move rfl rfl) ?_)
                refine l_of (s_val (v := .int .i64 ((findE (comeA A x33.id) x33.id))) (wt1 rfl rfl rfl rfl rfl) rfl rfl (x_move rfl rfl) ?_)
                refine l_of (s_val (v := .int .i64 ((findE (comeA A x33.id) x33.id))) (wt1 rfl rfl rfl rfl rfl) rfl rfl (x_move rfl rfl) ?_)
                refine l_of (s_val (v := .bool (!decide (((findE (comeA A x33.id) x33.id) : Int) = (findE (comeA A x33.id) x33.id)))) (wt1 rfl rfl rfl rfl rfl) rfl rfl (x_bin rfl rfl rfl b_neq) ?_)
                refine l_of (s_val (v := .bool (!decide (((findE (comeA A x33.id) x33.id) : Int) = (findE (comeA A x33.id) x33.id)))) (wt0 rfl) rfl rfl (x_pick_f rfl rfl rfl rfl) ?_)
                refine l_of (s_val (v := .bool (!decide (((findE (comeA A x33.id) x33.id) : Int) = (findE (comeA A x33.id) x33.id)))) (wt0 rfl) rfl rfl (x_move rfl rfl) ?_)
                refine l_of (s_val (v := .int .i64 ((countT (comeA A x33.id) x33.pc))) (wt1 rfl rfl rfl rfl (nf rfl)) rfl rfl (x_move rfl rfl) ?_)
                refine l_of (s_val (v := .int .i64 ((countT (comeA A x33.id) x33.pc))) (wt1 rfl rfl rfl rfl (nf rfl)) rfl rfl (x_move rfl rfl) ?_)
                refine l_of (s_val (v := .bool (!decide (((countT (comeA A x33.id) x33.pc) : Int) = (countT (comeA A x33.id) x33.pc)))) (wt1 rfl rfl rfl rfl (nf rfl)) rfl rfl (x_bin rfl rfl rfl b_neq) ?_)
                refine l_of (s_val (v := .bool (!decide (((countT (comeA A x33.id) x33.pc) : Int) = (countT (comeA A x33.id) x33.pc)))) (wt0 rfl) rfl rfl (x_pick_f rfl rfl (nf rfl) rfl) ?_)
                refine l_of (s_val (v := .bool (!decide (((countT (comeA A x33.id) x33.pc) : Int) = (countT (comeA A x33.id) x33.pc)))) (wt0 rfl) rfl rfl (x_move rfl rfl) ?_)
                refine l_of (s_val (v := .int .i64 ((countH (comeA A x33.id) x33.pc))) (wt1 rfl rfl rfl rfl (nf rfl)) rfl rfl (x_move rfl rfl) ?_)
                refine l_of (s_val (v := .int .i64 ((countH (comeA A x33.id) x33.pc))) (wt1 rfl rfl rfl rfl (nf rfl)) rfl rfl (x_move rfl rfl) ?_)
                refine l_of (s_val (v := .bool (!decide (((countH (comeA A x33.id) x33.pc) : Int) = (countH (comeA A x33.id) x33.pc)))) (wt1 rfl rfl rfl rfl (nf rfl)) rfl rfl (x_bin rfl rfl rfl b_neq) ?_)
                refine l_of (s_val (v := .bool (!decide (((countH (comeA A x33.id) x33.pc) : Int) = (countH (comeA A x33.id) x33.pc)))) (wt0 rfl) rfl rfl (x_pick_f rfl rfl (nf rfl) rfl) ?_)
                refine l_of (s_val (v := .bool (!decide (((countH (comeA A x33.id) x33.pc) : Int) = (countH (comeA A x33.id) x33.pc)))) (wt0 rfl) rfl rfl (x_move rfl rfl) ?_)
                refine l_of (s_val (v := .int .i64 ((countE (comeA A x33.id) x33.pc))) (wt1 rfl rfl rfl rfl (nf rfl)) rfl rfl (x_move rfl rfl) ?_)
                refine l_of (s_val (v := .int .i64 ((countE (comeA A x33.id) x33.pc))) (wt1 rfl rfl rfl rfl (nf rfl)) rfl rfl (x_move rfl rfl) ?_)
                refine l_of (s_val (v := .bool (!decide (((countE (comeA A x33.id) x33.pc) : Int) = (countE (comeA A x33.id) x33.pc)))) (wt1 rfl rfl rfl rfl (nf rfl)) rfl rfl (x_bin rfl rfl rfl b_neq) ?_)
                refine l_of (s_val (v := .bool (!decide (((countE (comeA A x33.id) x33.pc) : Int) = (countE (comeA A x33.id) x33.pc)))) (wt0 rfl) rfl rfl (x_pick_f rfl rfl (nf rfl) rfl) ?_)
                refine l_of (s_val (v := .bool (!decide (((countE (comeA A x33.id) x33.pc) : Int) = (countE (comeA A x33.id) x33.pc)))) (wt0 rfl) rfl rfl (x_move rfl rfl) ?_)
                refine l_of (s_val (v := .pointer (some ⟨Y10.g, 0, none⟩)) (wt1 rfl rfl rfl rfl (nf rfl)) rfl rfl (x_move rfl rfl) ?_)
                refine l_of (s_call (wt1 rfl rfl rfl rfl (nf rfl)) (x_call' rfl rfl cl21) (whole_gx hPJ2 (by omega) hYg43 hYA44 _ (H68.takes [1] (by decide))) ?_)
                rintro _ wq69 ⟨rfl, H70⟩
                replace H70 : S wq69 [Y42.I, Y47.I, Rw 3 1 pt52 ((toldV (comeA A x33.id) x33.id).length) ct53 (fl intL (toldV (comeA A x33.id) x33.id)), Ob g34 (.cells #[.int .i64 (x33.kind), .int .i64 (x33.id), .int .i64 (x33.pc)] 32 (0, 0)), Old w no] := H68.absorbI (new := [Y42.I]) [1] H70
                refine b_ret rfl rfl ?_
                refine l_of (s_val (v := .pointer (some ⟨Y24.h, 0, none⟩)) (wt1 rfl rfl rfl rfl (nf rfl)) rfl rfl (x_move rfl rfl) ?_)
                refine l_of (s_call (wt1 rfl rfl rfl rfl (nf rfl)) (x_call' rfl rfl cl22) (whole_gr hPJ2 (by omega) hYg48 hYA49 _ (H70.takes [1] (by decide))) ?_)
                rintro _ wq71 ⟨rfl, H72⟩
                replace H72 : S wq71 [Y47.I, Y42.I, Rw 3 1 pt52 ((toldV (comeA A x33.id) x33.id).length) ct53 (fl intL (toldV (comeA A x33.id) x33.id)), Ob g34 (.cells #[.int .i64 (x33.kind), .int .i64 (x33.id), .int .i64 (x33.pc)] 32 (0, 0)), Old w no] := H70.absorbI (new := [Y47.I]) [1] H72
                refine b_ret rfl rfl ?_
                refine l_of (s_val (v := .bool (!(((wholeB (comeA A x33.id))) == ((wholeB (comeA A x33.id)))))) (wt1 rfl rfl rfl rfl (nf rfl)) rfl rfl (x_bin rfl rfl rfl (b_neN Tryd.underlying4 rfl)) ?_)
                refine l_of (s_val (v := .bool (!(((wholeB (comeA A x33.id))) == ((wholeB (comeA A x33.id)))))) (wt0 rfl) rfl rfl (x_pick_f rfl rfl (nf rfl) rfl) ?_)
                refine g_nil ?_
                refine g_then ?_
                refine g_weak [(1, .int .i64 pc), (7, .pointer (some ⟨Y10.g, 0, none⟩)), (9, .pointer (some ⟨Y24.h, 0, none⟩)), (78, .slice p n c), (79, .int .i64 ((n : Int))), (80, .int .i64 ((j9 : Int))), (266, .bool (!(((wholeB (comeA A x33.id))) == ((wholeB (comeA A x33.id))))))] ⟨rfl, rfl, rfl, rfl, rfl, rfl, rfl, trivial⟩ ?_
                refine g_cond_f rfl (neg_of (beq_self_eq_true ((wholeB (comeA A x33.id))))) ?_
                refine g_skip ?_
                refine g_in ?_
                refine g_then ?_
                refine g_region ?_
                refine l_of (s_val (v := .int .i64 (((j9 + 1 : Nat) : Int))) (wt0 rfl) rfl rfl (x_bin rfl rfl rfl (b_add (by rw [w64 (by omega)]; omega))) ?_)
                refine l_of (s_val (v := .int .i64 (((j9 + 1 : Nat) : Int))) (wt0 rfl) rfl rfl (x_move rfl rfl) ?_)
                refine g_nil ?_
                refine g_then ?_
                refine g_round (i := (j9, X, Z, A)) ((j9 + 1), Y42, Y47, (comeA A x33.id)) ?_ ?_ ?_
                · exact ⟨rfl, rfl, rfl, rfl, rfl, rfl, trivial⟩
                · exact ⟨by omega, (hPJ.come (hok _ (List.mem_of_getElem? hx33)).1), hYg43, hYA44, hYg48, hYA49, ((come_n).trans hAn), (H72.takes [1, 0, 4] (by decide))⟩
                · (try dsimp only); omega
              · skip
                refine g_cond_f rfl (decide_eq_false hb39) ?_
                refine g_region ?_
                refine l_of (s_val (v := .bool (decide ((x33.kind : Int) = 2))) (wt0 rfl) rfl rfl (x_bin rfl rfl rfl b_eql) ?_)
                refine l_of (s_val (v := .bool (decide ((x33.kind : Int) = 2))) (wt0 rfl) rfl rfl (x_assign rfl rfl) ?_)
                refine g_nil ?_
                refine g_then ?_
                by_cases hb73 : (x33.kind : Int) = 2
                · skip
                  refine g_cond_t rfl (decide_eq_true hb73) ?_
                  refine g_any [] (fun wx => S wx [Ob g34 (.cells #[.int .i64 (x33.kind), .int .i64 (x33.id), .int .i64 (x33.pc)] 32 (0, 0))]) [] (by kernel_rfl) H38 (fun wq74 H75 => ?_)
                  refine a_take (v := .pointer (some ⟨Y10.g, 0, none⟩)) 0 rfl (wt0 rfl) rfl rfl rfl (by kernel_rfl) (by kernel_rfl) (by kernel_rfl) (by kernel_rfl) (H75.mask [true, false, false, false]) (fun wx H => x_move rfl rfl) ?_
                  refine a_take (v := .pointer (some ⟨g34, 1, none⟩)) 1 rfl (wt0 rfl) rfl rfl rfl (by kernel_rfl) (by kernel_rfl) (by kernel_rfl) (by kernel_rfl) (H75.mask [true, false, false, false]) (fun wx H => x_fieldAddr rfl rfl fo32_1 rfl) ?_
                  refine a_take (v := .int .i64 (x33.id)) 2 rfl (wt0 rfl) rfl rfl rfl (by kernel_rfl) (by kernel_rfl) (by kernel_rfl) (by kernel_rfl) (H75.mask [true, false, false, false]) (fun wx H => x_load1 H 0 rfl rfl Tryd.underlying3 rfl rfl rfl) ?_
                  refine a_take (v := .pointer (some ⟨Y24.h, 0, none⟩)) 4 rfl (wt0 rfl) rfl rfl rfl (by kernel_rfl) (by kernel_rfl) (by kernel_rfl) (by kernel_rfl) (H75.mask [true, false, false, false]) (fun wx H => x_move rfl rfl) ?_
                  refine a_take (v := .pointer (some ⟨g34, 1, none⟩)) 5 rfl (wt0 rfl) rfl rfl rfl (by kernel_rfl) (by kernel_rfl) (by kernel_rfl) (by kernel_rfl) (H75.mask [true, false, false, false]) (fun wx H => x_fieldAddr rfl rfl fo32_1 rfl) ?_
                  refine a_take (v := .int .i64 (x33.id)) 6 rfl (wt0 rfl) rfl rfl rfl (by kernel_rfl) (by kernel_rfl) (by kernel_rfl) (by kernel_rfl) (H75.mask [true, false, false, false]) (fun wx H => x_load1 H 0 rfl rfl Tryd.underlying3 rfl rfl rfl) ?_
                  refine a_one (i := 3) (by kernel_rfl) rfl ?_
                  refine s_call (wt0 rfl) (x_call' rfl rfl cl7) (come_gx (id := x33.id) hPJ (by omega) hXg hXA (hok _ (List.mem_of_getElem? hx33)).1 _ (H75.takes [1] (by decide))) ?_
                  rintro _ wq79 ⟨Y76, hYg77, hYA78, rfl, H80⟩
                  replace H80 : S wq79 [Y76.I, Ob g34 (.cells #[.int .i64 (x33.kind), .int .i64 (x33.id), .int .i64 (x33.pc)] 32 (0, 0)), Z.I, Old w no] := H75.absorbI (new := [Y76.I]) [1] H80
                  refine b_ret rfl rfl ?_
                  refine a_k (H80.mask [false, true, false, false]) ?_
                  refine a_one (i := 7) (by kernel_rfl) rfl ?_
                  refine s_call (wt0 rfl) (x_call' rfl rfl cl8) (come_gr (id := x33.id) hPJ (by omega) hZg hZA _ (H80.takes [2] (by decide))) ?_
                  rintro _ wq84 ⟨Y81, hYg82, hYA83, rfl, H85⟩
                  replace H85 : S wq84 [Y81.I, Y76.I, Ob g34 (.cells #[.int .i64 (x33.kind), .int .i64 (x33.id), .int .i64 (x33.pc)] 32 (0, 0)), Old w no] := H80.absorbI (new := [Y81.I]) [2] H85
                  refine b_ret rfl rfl ?_
                  refine a_k (H85.mask [false, false, true, false]) ?_
                  refine a_take (v := .bool (decide (((comeE A x33.id) : Int) = (comeE A x33.id)))) 8 rfl (wt0 rfl) rfl rfl rfl (by kernel_rfl) (by kernel_rfl) (by kernel_rfl) (by kernel_rfl) (H85.mask [false, false, true, false]) (fun wx H => x_bin rfl rfl rfl b_eql) ?_
                  refine a_take (v := .bool (decide (((comeE A x33.id) : Int) = (comeE A x33.id)))) 9 rfl (wt0 rfl) rfl rfl rfl (by kernel_rfl) (by kernel_rfl) (by kernel_rfl) (by kernel_rfl) (H85.mask [false, false, true, false]) (fun wx H => x_assign rfl rfl) ?_
                  refine a_done (by kernel_rfl) ?_
                  refine g_in ?_
                  refine g_then ?_
                  refine g_weak [(1, .int .i64 pc), (7, .pointer (some ⟨Y10.g, 0, none⟩)), (9, .pointer (some ⟨Y24.h, 0, none⟩)), (12, .pointer (some ⟨g34, 0, none⟩)), (13, .bool (decide (((comeE A x33.id) : Int) = (comeE A x33.id)))), (78, .slice p n c), (79, .int .i64 ((n : Int))), (80, .int .i64 ((j9 : Int)))] ⟨rfl, rfl, rfl, rfl, rfl, rfl, rfl, rfl, trivial⟩ ?_
                  refine g_seq ?_
                  refine g_region ?_
                  have hPJ2 := (hPJ.come (hok _ (List.mem_of_getElem? hx33)).1)
                  refine l_of (s_val (v := .pointer (some ⟨Y10.g, 0, none⟩)) (wt0 rfl) rfl rfl (x_move rfl rfl) ?_)
                  refine l_of (s_val (v := .pointer (some ⟨g34, 1, none⟩)) (wt0 rfl) rfl rfl (x_fieldAddr rfl rfl fo32_1 rfl) ?_)
                  refine l_of (s_val (v := .int .i64 (x33.id)) (wt0 rfl) rfl rfl (x_load1 H85 2 rfl rfl Tryd.underlying3 rfl rfl rfl) ?_)
                  refine l_of (s_call (wt0 rfl) (x_call' rfl rfl cl18) (told_gx (id := x33.id) hPJ2 (by omega) hYg77 hYA78 (hok _ (List.mem_of_getElem? hx33)).1 _ (H85.takes [1] (by decide))) ?_)
                  rintro _ wq89 ⟨pt86, ct87, rfl, H90⟩
                  replace H90 : S wq89 [Rw 3 1 pt86 ((toldV (comeA A x33.id) x33.id).length) ct87 (fl intL (toldV (comeA A x33.id) x33.id)), Y76.I, Y81.I, Ob g34 (.cells #[.int .i64 (x33.kind), .int .i64 (x33.id), .int .i64 (x33.pc)] 32 (0, 0)), Old w no] := H85.absorbI (new := [Rw 3 1 pt86 ((toldV (comeA A x33.id) x33.id).length) ct87 (fl intL (toldV (comeA A x33.id) x33.id)), Y76.I]) [1] H90
                  have hl88 := toldV_len hPJ2 x33.id
                  refine b_ret rfl rfl ?_
                  refine l_of (s_val (v := .tuple #[.slice pt86 ((toldV (comeA A x33.id) x33.id).length) ct87, .int .i64 ((findE (comeA A x33.id) x33.id))]) (wt0 rfl) rfl rfl (x_move rfl rfl) ?_)
                  refine l_of (s_val (v := .slice pt86 ((toldV (comeA A x33.id) x33.id).length) ct87) (wt0 rfl) rfl rfl (x_extract rfl rfl rfl) ?_)
                  refine l_of (s_val (v := .int .i64 ((findE (comeA A x33.id) x33.id))) (wt0 rfl) rfl rfl (x_extract rfl rfl rfl) ?_)
                  refine l_of (s_val (v := .slice pt86 ((toldV (comeA A x33.id) x33.id).length) ct87) (wt0 rfl) rfl rfl (x_assign rfl rfl) ?_)
                  refine l_of (s_val (v := .int .i64 ((findE (comeA A x33.id) x33.id))) (wt0 rfl) rfl rfl (x_assign rfl rfl) ?_)
                  refine g_nil ?_
                  refine g_then ?_
                  refine g_seq ?_
                  refine g_region ?_
                  refine l_of (s_val (v := .pointer (some ⟨Y24.h, 0, none⟩)) (wt0 rfl) rfl rfl (x_move rfl rfl) ?_)
                  refine l_of (s_val (v := .pointer (some ⟨g34, 1, none⟩)) (wt0 rfl) rfl rfl (x_fieldAddr rfl rfl fo32_1 rfl) ?_)
                  refine l_of (s_val (v := .int .i64 (x33.id)) (wt0 rfl) rfl rfl (x_load1 H90 3 rfl rfl Tryd.underlying3 rfl rfl rfl) ?_)
                  refine l_of (s_call (wt0 rfl) (x_call' rfl rfl cl13) (told_gr (id := x33.id) hPJ2 (by omega) hYg82 hYA83 _ (H90.takes [2] (by decide))) ?_)
                  rintro _ wq95 ⟨pt91, ct92, rfl, hT94, H96⟩
                  replace H96 : S wq95 [Y81.I, Rw 3 1 pt86 ((toldV (comeA A x33.id) x33.id).length) ct87 (fl intL (toldV (comeA A x33.id) x33.id)), Y76.I, Ob g34 (.cells #[.int .i64 (x33.kind), .int .i64 (x33.id), .int .i64 (x33.pc)] 32 (0, 0)), Old w no] := H90.absorbI (new := [Y81.I]) [2] H96
                  have hl93 := toldV_len hPJ2 x33.id
                  refine b_ret rfl rfl ?_
                  refine l_of (s_val (v := .tuple #[.slice pt91 ((toldV (comeA A x33.id) x33.id).length) ct92, .int .i64 ((findE (comeA A x33.id) x33.id))]) (wt0 rfl) rfl rfl (x_move rfl rfl) ?_)
                  refine l_of (s_val (v := .slice pt91 ((toldV (comeA A x33.id) x33.id).length) ct92) (wt0 rfl) rfl rfl (x_extract rfl rfl rfl) ?_)
                  refine l_of (s_val (v := .int .i64 ((findE (comeA A x33.id) x33.id))) (wt0 rfl) rfl rfl (x_extract rfl rfl rfl) ?_)
                  refine l_of (s_val (v := .slice pt91 ((toldV (comeA A x33.id) x33.id).length) ct92) (wt0 rfl) rfl rfl (x_assign rfl rfl) ?_)
                  refine l_of (s_val (v := .int .i64 ((findE (comeA A x33.id) x33.id))) (wt0 rfl) rfl rfl (x_assign rfl rfl) ?_)
                  refine g_nil ?_
                  refine g_then ?_
                  refine g_weak [(1, .int .i64 pc), (7, .pointer (some ⟨Y10.g, 0, none⟩)), (9, .pointer (some ⟨Y24.h, 0, none⟩)), (12, .pointer (some ⟨g34, 0, none⟩)), (13, .bool (decide (((comeE A x33.id) : Int) = (comeE A x33.id)))), (26, .slice pt86 ((toldV (comeA A x33.id) x33.id).length) ct87), (27, .int .i64 ((findE (comeA A x33.id) x33.id))), (28, .slice pt91 ((toldV (comeA A x33.id) x33.id).length) ct92), (29, .int .i64 ((findE (comeA A x33.id) x33.id))), (78, .slice p n c), (79, .int .i64 ((n : Int))), (80, .int .i64 ((j9 : Int)))] ⟨rfl, rfl, rfl, rfl, rfl, rfl, rfl, rfl, rfl, rfl, rfl, rfl, trivial⟩ ?_
                  refine g_seq ?_
                  refine g_region ?_
                  refine l_of (s_val (v := .pointer (some ⟨Y10.g, 0, none⟩)) (wt0 rfl) rfl rfl (x_move rfl rfl) ?_)
                  refine l_of (s_val (v := .pointer (some ⟨g34, 2, none⟩)) (wt0 rfl) rfl rfl (x_fieldAddr rfl rfl fo32_2 rfl) ?_)
                  refine l_of (s_val (v := .int .i64 (x33.pc)) (wt0 rfl) rfl rfl (x_load1 H96 3 rfl rfl Tryd.underlying3 rfl rfl rfl) ?_)
                  refine l_of (s_call (wt0 rfl) (x_call' rfl rfl cl19) (count_gx (k := x33.pc) hPJ2 (by omega) hYg77 hYA78 _ (H96.takes [2] (by decide))) ?_)
                  rintro _ wq97 ⟨rfl, H98⟩
                  replace H98 : S wq97 [Y76.I, Y81.I, Rw 3 1 pt86 ((toldV (comeA A x33.id) x33.id).length) ct87 (fl intL (toldV (comeA A x33.id) x33.id)), Ob g34 (.cells #[.int .i64 (x33.kind), .int .i64 (x33.id), .int .i64 (x33.pc)] 32 (0, 0)), Old w no] := H96.absorbI (new := [Y76.I]) [2] H98
                  refine b_ret rfl rfl ?_
                  refine l_of (s_val (v := .tuple #[.int .i64 ((countT (comeA A x33.id) x33.pc)), .int .i64 ((countH (comeA A x33.id) x33.pc)), .int .i64 ((countE (comeA A x33.id) x33.pc))]) (wt0 rfl) rfl rfl (x_move rfl rfl) ?_)
                  refine l_of (s_val (v := .int .i64 ((countT (comeA A x33.id) x33.pc))) (wt0 rfl) rfl rfl (x_extract rfl rfl rfl) ?_)
                  refine l_of (s_val (v := .int .i64 ((countH (comeA A x33.id) x33.pc))) (wt0 rfl) rfl rfl (x_extract rfl rfl rfl) ?_)
                  refine l_of (s_val (v := .int .i64 ((countE (comeA A x33.id) x33.pc))) (wt0 rfl) rfl rfl (x_extract rfl rfl rfl) ?_)
                  refine l_of (s_val (v := .int .i64 ((countT (comeA A x33.id) x33.pc))) (wt0 rfl) rfl rfl (x_assign rfl rfl) ?_)
                  refine l_of (s_val (v := .int .i64 ((countH (comeA A x33.id) x33.pc))) (wt0 rfl) rfl rfl (x_assign rfl rfl) ?_)
                  refine l_of (s_val (v := .int .i64 ((countE (comeA A x33.id) x33.pc))) (wt0 rfl) rfl rfl (x_assign rfl rfl) ?_)
                  refine g_nil ?_
                  refine g_then ?_
                  refine g_seq ?_
                  refine g_region ?_
                  refine l_of (s_val (v := .pointer (some ⟨Y24.h, 0, none⟩)) (wt0 rfl) rfl rfl (x_move rfl rfl) ?_)
                  refine l_of (s_val (v := .pointer (some ⟨g34, 2, none⟩)) (wt0 rfl) rfl rfl (x_fieldAddr rfl rfl fo32_2 rfl) ?_)
                  refine l_of (s_val (v := .int .i64 (x33.pc)) (wt0 rfl) rfl rfl (x_load1 H98 3 rfl rfl Tryd.underlying3 rfl rfl rfl) ?_)
                  refine l_of (s_call (wt0 rfl) (x_call' rfl rfl cl14) (count_gr (k := x33.pc) hPJ2 (by omega) hYg82 hYA83 _ (H98.takes [1] (by decide))) ?_)
                  rintro _ wq99 ⟨rfl, H100⟩
                  replace H100 : S wq99 [Y81.I, Y76.I, Rw 3 1 pt86 ((toldV (comeA A x33.id) x33.id).length) ct87 (fl intL (toldV (comeA A x33.id) x33.id)), Ob g34 (.cells #[.int .i64 (x33.kind), .int .i64 (x33.id), .int .i64 (x33.pc)] 32 (0, 0)), Old w no] := H98.absorbI (new := [Y81.I]) [1] H100
                  refine b_ret rfl rfl ?_
                  refine l_of (s_val (v := .tuple #[.int .i64 ((countT (comeA A x33.id) x33.pc)), .int .i64 ((countH (comeA A x33.id) x33.pc)), .int .i64 ((countE (comeA A x33.id) x33.pc))]) (wt0 rfl) rfl rfl (x_move rfl rfl) ?_)
                  refine l_of (s_val (v := .int .i64 ((countT (comeA A x33.id) x33.pc))) (wt0 rfl) rfl rfl (x_extract rfl rfl rfl) ?_)
                  refine l_of (s_val (v := .int .i64 ((countH (comeA A x33.id) x33.pc))) (wt0 rfl) rfl rfl (x_extract rfl rfl rfl) ?_)
                  refine l_of (s_val (v := .int .i64 ((countE (comeA A x33.id) x33.pc))) (wt0 rfl) rfl rfl (x_extract rfl rfl rfl) ?_)
                  refine l_of (s_val (v := .int .i64 ((countT (comeA A x33.id) x33.pc))) (wt0 rfl) rfl rfl (x_assign rfl rfl) ?_)
                  refine l_of (s_val (v := .int .i64 ((countH (comeA A x33.id) x33.pc))) (wt0 rfl) rfl rfl (x_assign rfl rfl) ?_)
                  refine l_of (s_val (v := .int .i64 ((countE (comeA A x33.id) x33.pc))) (wt0 rfl) rfl rfl (x_assign rfl rfl) ?_)
                  refine g_nil ?_
                  refine g_then ?_
                  refine g_weak [(1, .int .i64 pc), (7, .pointer (some ⟨Y10.g, 0, none⟩)), (9, .pointer (some ⟨Y24.h, 0, none⟩)), (13, .bool (decide (((comeE A x33.id) : Int) = (comeE A x33.id)))), (26, .slice pt86 ((toldV (comeA A x33.id) x33.id).length) ct87), (27, .int .i64 ((findE (comeA A x33.id) x33.id))), (28, .slice pt91 ((toldV (comeA A x33.id) x33.id).length) ct92), (29, .int .i64 ((findE (comeA A x33.id) x33.id))), (30, .int .i64 ((countT (comeA A x33.id) x33.pc))), (31, .int .i64 ((countH (comeA A x33.id) x33.pc))), (32, .int .i64 ((countE (comeA A x33.id) x33.pc))), (33, .int .i64 ((countT (comeA A x33.id) x33.pc))), (34, .int .i64 ((countH (comeA A x33.id) x33.pc))), (35, .int .i64 ((countE (comeA A x33.id) x33.pc))), (78, .slice p n c), (79, .int .i64 ((n : Int))), (80, .int .i64 ((j9 : Int)))] ⟨rfl, rfl, rfl, rfl, rfl, rfl, rfl, rfl, rfl, rfl, rfl, rfl, rfl, rfl, rfl, rfl, rfl, trivial⟩ ?_
                  refine g_seq ?_
                  refine g_region ?_
                  refine l_of (s_val (v := .bool (decide (((comeE A x33.id) : Int) = (comeE A x33.id)))) (wt0 rfl) rfl rfl (x_move rfl rfl) ?_)
                  refine l_of (s_val (v := .bool (!decide (((comeE A x33.id) : Int) = (comeE A x33.id)))) (wt0 rfl) rfl rfl (x_not (b := decide (((comeE A x33.id) : Int) = (comeE A x33.id))) rfl rfl) ?_)
                  refine l_of (s_val (v := .bool (!decide (((comeE A x33.id) : Int) = (comeE A x33.id)))) (wt0 rfl) rfl rfl (x_move rfl rfl) ?_)
                  refine l_of (s_val (v := .slice pt86 ((toldV (comeA A x33.id) x33.id).length) ct87) (wt1 rfl rfl rfl rfl (nf rfl)) rfl rfl (x_move rfl rfl) ?_)
                  refine l_of (s_val (v := .slice pt91 ((toldV (comeA A x33.id) x33.id).length) ct92) (wt1 rfl rfl rfl rfl (nf rfl)) rfl rfl (x_move rfl rfl) ?_)
                  refine l_of (s_call (wt1 rfl rfl rfl rfl (nf rfl)) (x_call' rfl rfl cl20) (same_i (toldV (comeA A x33.id) x33.id) (by omega) pt86 ((toldV (comeA A x33.id) x33.id).length) ct87 pt91 ((toldV (comeA A x33.id) x33.id).length) ct92 _ (H100.rwReads (k := 2) rfl) ((hT94 _ (H100.takes [0] (by decide))))) ?_)
                  rintro _ wq101 ⟨rfl, H102⟩
                  replace H102 : S wq101 [Y81.I, Y76.I, Rw 3 1 pt86 ((toldV (comeA A x33.id) x33.id).length) ct87 (fl intL (toldV (comeA A x33.id) x33.id)), Ob g34 (.cells #[.int .i64 (x33.kind), .int .i64 (x33.id), .int .i64 (x33.pc)] 32 (0, 0)), Old w no] := H100.absorb (new := []) H102
                  refine b_ret rfl rfl ?_
                  refine l_of (s_val (v := .bool false) (wt1 rfl rfl rfl rfl (nf rfl)) rfl rfl (x_not (b := true) rfl rfl) ?_)
                  refine l_of (s_val (v := .bool false) (wt0 rfl) rfl rfl (x_pick_f rfl rfl (nf rfl) rfl) ?_)
                  refine l_of (s_val (v := .bool false) (wt0 rfl) rfl rfl (x_move rfl rfl) ?_)
                  refine l_of (s_val (v := .int .i64 ((findE (comeA A x33.id) x33.id))) (wt1 rfl rfl rfl rfl rfl) rfl rfl (x_move rfl rfl) ?_)
                  refine l_of (s_val (v := .int .i64 ((findE (comeA A x33.id) x33.id))) (wt1 rfl rfl rfl rfl rfl) rfl rfl (x_move rfl rfl) ?_)
                  refine l_of (s_val (v := .bool (!decide (((findE (comeA A x33.id) x33.id) : Int) = (findE (comeA A x33.id) x33.id)))) (wt1 rfl rfl rfl rfl rfl) rfl rfl (x_bin rfl rfl rfl b_neq) ?_)
                  refine l_of (s_val (v := .bool (!decide (((findE (comeA A x33.id) x33.id) : Int) = (findE (comeA A x33.id) x33.id)))) (wt0 rfl) rfl rfl (x_pick_f rfl rfl rfl rfl) ?_)
                  refine l_of (s_val (v := .bool (!decide (((findE (comeA A x33.id) x33.id) : Int) = (findE (comeA A x33.id) x33.id)))) (wt0 rfl) rfl rfl (x_move rfl rfl) ?_)
                  refine l_of (s_val (v := .int .i64 ((countT (comeA A x33.id) x33.pc))) (wt1 rfl rfl rfl rfl (nf rfl)) rfl rfl (x_move rfl rfl) ?_)
                  refine l_of (s_val (v := .int .i64 ((countT (comeA A x33.id) x33.pc))) (wt1 rfl rfl rfl rfl (nf rfl)) rfl rfl (x_move rfl rfl) ?_)
                  refine l_of (s_val (v := .bool (!decide (((countT (comeA A x33.id) x33.pc) : Int) = (countT (comeA A x33.id) x33.pc)))) (wt1 rfl rfl rfl rfl (nf rfl)) rfl rfl (x_bin rfl rfl rfl b_neq) ?_)
                  refine l_of (s_val (v := .bool (!decide (((countT (comeA A x33.id) x33.pc) : Int) = (countT (comeA A x33.id) x33.pc)))) (wt0 rfl) rfl rfl (x_pick_f rfl rfl (nf rfl) rfl) ?_)
                  refine l_of (s_val (v := .bool (!decide (((countT (comeA A x33.id) x33.pc) : Int) = (countT (comeA A x33.id) x33.pc)))) (wt0 rfl) rfl rfl (x_move rfl rfl) ?_)
                  refine l_of (s_val (v := .int .i64 ((countH (comeA A x33.id) x33.pc))) (wt1 rfl rfl rfl rfl (nf rfl)) rfl rfl (x_move rfl rfl) ?_)
                  refine l_of (s_val (v := .int .i64 ((countH (comeA A x33.id) x33.pc))) (wt1 rfl rfl rfl rfl (nf rfl)) rfl rfl (x_move rfl rfl) ?_)
                  refine l_of (s_val (v := .bool (!decide (((countH (comeA A x33.id) x33.pc) : Int) = (countH (comeA A x33.id) x33.pc)))) (wt1 rfl rfl rfl rfl (nf rfl)) rfl rfl (x_bin rfl rfl rfl b_neq) ?_)
                  refine l_of (s_val (v := .bool (!decide (((countH (comeA A x33.id) x33.pc) : Int) = (countH (comeA A x33.id) x33.pc)))) (wt0 rfl) rfl rfl (x_pick_f rfl rfl (nf rfl) rfl) ?_)
                  refine l_of (s_val (v := .bool (!decide (((countH (comeA A x33.id) x33.pc) : Int) = (countH (comeA A x33.id) x33.pc)))) (wt0 rfl) rfl rfl (x_move rfl rfl) ?_)
                  refine l_of (s_val (v := .int .i64 ((countE (comeA A x33.id) x33.pc))) (wt1 rfl rfl rfl rfl (nf rfl)) rfl rfl (x_move rfl rfl) ?_)
                  refine l_of (s_val (v := .int .i64 ((countE (comeA A x33.id) x33.pc))) (wt1 rfl rfl rfl rfl (nf rfl)) rfl rfl (x_move rfl rfl) ?_)
                  refine l_of (s_val (v := .bool (!decide (((countE (comeA A x33.id) x33.pc) : Int) = (countE (comeA A x33.id) x33.pc)))) (wt1 rfl rfl rfl rfl (nf rfl)) rfl rfl (x_bin rfl rfl rfl b_neq) ?_)
                  refine l_of (s_val (v := .bool (!decide (((countE (comeA A x33.id) x33.pc) : Int) = (countE (comeA A x33.id) x33.pc)))) (wt0 rfl) rfl rfl (x_pick_f rfl rfl (nf rfl) rfl) ?_)
                  refine l_of (s_val (v := .bool (!decide (((countE (comeA A x33.id) x33.pc) : Int) = (countE (comeA A x33.id) x33.pc)))) (wt0 rfl) rfl rfl (x_move rfl rfl) ?_)
                  refine l_of (s_val (v := .pointer (some ⟨Y10.g, 0, none⟩)) (wt1 rfl rfl rfl rfl (nf rfl)) rfl rfl (x_move rfl rfl) ?_)
                  refine l_of (s_call (wt1 rfl rfl rfl rfl (nf rfl)) (x_call' rfl rfl cl21) (whole_gx hPJ2 (by omega) hYg77 hYA78 _ (H102.takes [1] (by decide))) ?_)
                  rintro _ wq103 ⟨rfl, H104⟩
                  replace H104 : S wq103 [Y76.I, Y81.I, Rw 3 1 pt86 ((toldV (comeA A x33.id) x33.id).length) ct87 (fl intL (toldV (comeA A x33.id) x33.id)), Ob g34 (.cells #[.int .i64 (x33.kind), .int .i64 (x33.id), .int .i64 (x33.pc)] 32 (0, 0)), Old w no] := H102.absorbI (new := [Y76.I]) [1] H104
                  refine b_ret rfl rfl ?_
                  refine l_of (s_val (v := .pointer (some ⟨Y24.h, 0, none⟩)) (wt1 rfl rfl rfl rfl (nf rfl)) rfl rfl (x_move rfl rfl) ?_)
                  refine l_of (s_call (wt1 rfl rfl rfl rfl (nf rfl)) (x_call' rfl rfl cl22) (whole_gr hPJ2 (by omega) hYg82 hYA83 _ (H104.takes [1] (by decide))) ?_)
                  rintro _ wq105 ⟨rfl, H106⟩
                  replace H106 : S wq105 [Y81.I, Y76.I, Rw 3 1 pt86 ((toldV (comeA A x33.id) x33.id).length) ct87 (fl intL (toldV (comeA A x33.id) x33.id)), Ob g34 (.cells #[.int .i64 (x33.kind), .int .i64 (x33.id), .int .i64 (x33.pc)] 32 (0, 0)), Old w no] := H104.absorbI (new := [Y81.I]) [1] H106
                  refine b_ret rfl rfl ?_
                  refine l_of (s_val (v := .bool (!(((wholeB (comeA A x33.id))) == ((wholeB (comeA A x33.id)))))) (wt1 rfl rfl rfl rfl (nf rfl)) rfl rfl (x_bin rfl rfl rfl (b_neN Tryd.underlying4 rfl)) ?_)
                  refine l_of (s_val (v := .bool (!(((wholeB (comeA A x33.id))) == ((wholeB (comeA A x33.id)))))) (wt0 rfl) rfl rfl (x_pick_f rfl rfl (nf rfl) rfl) ?_)
                  refine g_nil ?_
                  refine g_then ?_
                  refine g_weak [(1, .int .i64 pc), (7, .pointer (some ⟨Y10.g, 0, none⟩)), (9, .pointer (some ⟨Y24.h, 0, none⟩)), (78, .slice p n c), (79, .int .i64 ((n : Int))), (80, .int .i64 ((j9 : Int))), (266, .bool (!(((wholeB (comeA A x33.id))) == ((wholeB (comeA A x33.id))))))] ⟨rfl, rfl, rfl, rfl, rfl, rfl, rfl, trivial⟩ ?_
                  refine g_cond_f rfl (neg_of (beq_self_eq_true ((wholeB (comeA A x33.id))))) ?_
                  refine g_skip ?_
                  refine g_in ?_
                  refine g_then ?_
                  refine g_region ?_
                  refine l_of (s_val (v := .int .i64 (((j9 + 1 : Nat) : Int))) (wt0 rfl) rfl rfl (x_bin rfl rfl rfl (b_add (by rw [w64 (by omega)]; omega))) ?_)
                  refine l_of (s_val (v := .int .i64 (((j9 + 1 : Nat) : Int))) (wt0 rfl) rfl rfl (x_move rfl rfl) ?_)
                  refine g_nil ?_
                  refine g_then ?_
                  refine g_round (i := (j9, X, Z, A)) ((j9 + 1), Y76, Y81, (comeA A x33.id)) ?_ ?_ ?_
                  · exact ⟨rfl, rfl, rfl, rfl, rfl, rfl, trivial⟩
                  · exact ⟨by omega, (hPJ.come (hok _ (List.mem_of_getElem? hx33)).1), hYg77, hYA78, hYg82, hYA83, ((come_n).trans hAn), (H106.takes [1, 0, 4] (by decide))⟩
                  · (try dsimp only); omega
                · skip
                  refine g_cond_f rfl (decide_eq_false hb73) ?_
                  refine g_seq ?_
                  refine g_region ?_
                  refine l_of (s_val (v := .bool (decide ((x33.kind : Int) = 3))) (wt0 rfl) rfl rfl (x_bin rfl rfl rfl b_eql) ?_)
                  refine l_of (s_val (v := .bool (decide ((x33.kind : Int) = 3))) (wt0 rfl) rfl rfl (x_assign rfl rfl) ?_)
                  refine g_nil ?_
                  refine g_then ?_
                  by_cases hb107 : (x33.kind : Int) = 3
                  · skip
                    refine g_cond_t rfl (decide_eq_true hb107) ?_
                    refine g_any [] (fun wx => S wx [Ob g34 (.cells #[.int .i64 (x33.kind), .int .i64 (x33.id), .int .i64 (x33.pc)] 32 (0, 0))]) [] (by kernel_rfl) H38 (fun wq108 H109 => ?_)
                    refine a_take (v := .pointer (some ⟨Y10.g, 0, none⟩)) 0 rfl (wt0 rfl) rfl rfl rfl (by kernel_rfl) (by kernel_rfl) (by kernel_rfl) (by kernel_rfl) (H109.mask [true, false, false, false]) (fun wx H => x_move rfl rfl) ?_
                    refine a_take (v := .pointer (some ⟨g34, 1, none⟩)) 1 rfl (wt0 rfl) rfl rfl rfl (by kernel_rfl) (by kernel_rfl) (by kernel_rfl) (by kernel_rfl) (H109.mask [true, false, false, false]) (fun wx H => x_fieldAddr rfl rfl fo32_1 rfl) ?_
                    refine a_take (v := .int .i64 (x33.id)) 2 rfl (wt0 rfl) rfl rfl rfl (by kernel_rfl) (by kernel_rfl) (by kernel_rfl) (by kernel_rfl) (H109.mask [true, false, false, false]) (fun wx H => x_load1 H 0 rfl rfl Tryd.underlying3 rfl rfl rfl) ?_
                    refine a_take (v := .pointer (some ⟨Y24.h, 0, none⟩)) 4 rfl (wt0 rfl) rfl rfl rfl (by kernel_rfl) (by kernel_rfl) (by kernel_rfl) (by kernel_rfl) (H109.mask [true, false, false, false]) (fun wx H => x_move rfl rfl) ?_
                    refine a_take (v := .pointer (some ⟨g34, 1, none⟩)) 5 rfl (wt0 rfl) rfl rfl rfl (by kernel_rfl) (by kernel_rfl) (by kernel_rfl) (by kernel_rfl) (H109.mask [true, false, false, false]) (fun wx H => x_fieldAddr rfl rfl fo32_1 rfl) ?_
                    refine a_take (v := .int .i64 (x33.id)) 6 rfl (wt0 rfl) rfl rfl rfl (by kernel_rfl) (by kernel_rfl) (by kernel_rfl) (by kernel_rfl) (H109.mask [true, false, false, false]) (fun wx H => x_load1 H 0 rfl rfl Tryd.underlying3 rfl rfl rfl) ?_
                    refine a_one (i := 3) (by kernel_rfl) rfl ?_
                    refine s_call (wt0 rfl) (x_call' rfl rfl cl9) (go_gx (id := x33.id) hPJ (by omega) hXg hXA (hok _ (List.mem_of_getElem? hx33)).1 _ (H109.takes [1] (by decide))) ?_
                    rintro _ wq113 ⟨Y110, hYg111, hYA112, rfl, H114⟩
                    replace H114 : S wq113 [Y110.I, Ob g34 (.cells #[.int .i64 (x33.kind), .int .i64 (x33.id), .int .i64 (x33.pc)] 32 (0, 0)), Z.I, Old w no] := H109.absorbI (new := [Y110.I]) [1] H114
                    refine b_ret rfl rfl ?_
                    refine a_k (H114.mask [false, true, false, false]) ?_
                    refine a_one (i := 7) (by kernel_rfl) rfl ?_
                    refine s_call (wt0 rfl) (x_call' rfl rfl cl10) (go_gr (id := x33.id) hPJ (by omega) hZg hZA _ (H114.takes [2] (by decide))) ?_
                    rintro _ wq118 ⟨Y115, hYg116, hYA117, rfl, H119⟩
                    replace H119 : S wq118 [Y115.I, Y110.I, Ob g34 (.cells #[.int .i64 (x33.kind), .int .i64 (x33.id), .int .i64 (x33.pc)] 32 (0, 0)), Old w no] := H114.absorbI (new := [Y115.I]) [2] H119
                    refine b_ret rfl rfl ?_
                    refine a_k (H119.mask [false, false, true, false]) ?_
                    refine a_take (v := .bool (decide (((goE A x33.id) : Int) = (goE A x33.id)))) 8 rfl (wt0 rfl) rfl rfl rfl (by kernel_rfl) (by kernel_rfl) (by kernel_rfl) (by kernel_rfl) (H119.mask [false, false, true, false]) (fun wx H => x_bin rfl rfl rfl b_eql) ?_
                    refine a_take (v := .bool (decide (((goE A x33.id) : Int) = (goE A x33.id)))) 9 rfl (wt0 rfl) rfl rfl rfl (by kernel_rfl) (by kernel_rfl) (by kernel_rfl) (by kernel_rfl) (H119.mask [false, false, true, false]) (fun wx H => x_assign rfl rfl) ?_
                    refine a_done (by kernel_rfl) ?_
                    refine g_in ?_
                    refine g_then ?_
                    refine g_weak [(1, .int .i64 pc), (7, .pointer (some ⟨Y10.g, 0, none⟩)), (9, .pointer (some ⟨Y24.h, 0, none⟩)), (12, .pointer (some ⟨g34, 0, none⟩)), (13, .bool (decide (((goE A x33.id) : Int) = (goE A x33.id)))), (78, .slice p n c), (79, .int .i64 ((n : Int))), (80, .int .i64 ((j9 : Int)))] ⟨rfl, rfl, rfl, rfl, rfl, rfl, rfl, rfl, trivial⟩ ?_
                    refine g_seq ?_
                    refine g_region ?_
                    have hPJ2 := (hPJ.go (id := x33.id))
                    refine l_of (s_val (v := .pointer (some ⟨Y10.g, 0, none⟩)) (wt0 rfl) rfl rfl (x_move rfl rfl) ?_)
                    refine l_of (s_val (v := .pointer (some ⟨g34, 1, none⟩)) (wt0 rfl) rfl rfl (x_fieldAddr rfl rfl fo32_1 rfl) ?_)
                    refine l_of (s_val (v := .int .i64 (x33.id)) (wt0 rfl) rfl rfl (x_load1 H119 2 rfl rfl Tryd.underlying3 rfl rfl rfl) ?_)
                    refine l_of (s_call (wt0 rfl) (x_call' rfl rfl cl18) (told_gx (id := x33.id) hPJ2 (by omega) hYg111 hYA112 (hok _ (List.mem_of_getElem? hx33)).1 _ (H119.takes [1] (by decide))) ?_)
                    rintro _ wq123 ⟨pt120, ct121, rfl, H124⟩
                    replace H124 : S wq123 [Rw 3 1 pt120 ((toldV (goA A x33.id) x33.id).length) ct121 (fl intL (toldV (goA A x33.id) x33.id)), Y110.I, Y115.I, Ob g34 (.cells #[.int .i64 (x33.kind), .int .i64 (x33.id), .int .i64 (x33.pc)] 32 (0, 0)), Old w no] := H119.absorbI (new := [Rw 3 1 pt120 ((toldV (goA A x33.id) x33.id).length) ct121 (fl intL (toldV (goA A x33.id) x33.id)), Y110.I]) [1] H124
                    have hl122 := toldV_len hPJ2 x33.id
                    refine b_ret rfl rfl ?_
                    refine l_of (s_val (v := .tuple #[.slice pt120 ((toldV (goA A x33.id) x33.id).length) ct121, .int .i64 ((findE (goA A x33.id) x33.id))]) (wt0 rfl) rfl rfl (x_move rfl rfl) ?_)
                    refine l_of (s_val (v := .slice pt120 ((toldV (goA A x33.id) x33.id).length) ct121) (wt0 rfl) rfl rfl (x_extract rfl rfl rfl) ?_)
                    refine l_of (s_val (v := .int .i64 ((findE (goA A x33.id) x33.id))) (wt0 rfl) rfl rfl (x_extract rfl rfl rfl) ?_)
                    refine l_of (s_val (v := .slice pt120 ((toldV (goA A x33.id) x33.id).length) ct121) (wt0 rfl) rfl rfl (x_assign rfl rfl) ?_)
                    refine l_of (s_val (v := .int .i64 ((findE (goA A x33.id) x33.id))) (wt0 rfl) rfl rfl (x_assign rfl rfl) ?_)
                    refine g_nil ?_
                    refine g_then ?_
                    refine g_seq ?_
                    refine g_region ?_
                    refine l_of (s_val (v := .pointer (some ⟨Y24.h, 0, none⟩)) (wt0 rfl) rfl rfl (x_move rfl rfl) ?_)
                    refine l_of (s_val (v := .pointer (some ⟨g34, 1, none⟩)) (wt0 rfl) rfl rfl (x_fieldAddr rfl rfl fo32_1 rfl) ?_)
                    refine l_of (s_val (v := .int .i64 (x33.id)) (wt0 rfl) rfl rfl (x_load1 H124 3 rfl rfl Tryd.underlying3 rfl rfl rfl) ?_)
                    refine l_of (s_call (wt0 rfl) (x_call' rfl rfl cl13) (told_gr (id := x33.id) hPJ2 (by omega) hYg116 hYA117 _ (H124.takes [2] (by decide))) ?_)
                    rintro _ wq129 ⟨pt125, ct126, rfl, hT128, H130⟩
                    replace H130 : S wq129 [Y115.I, Rw 3 1 pt120 ((toldV (goA A x33.id) x33.id).length) ct121 (fl intL (toldV (goA A x33.id) x33.id)), Y110.I, Ob g34 (.cells #[.int .i64 (x33.kind), .int .i64 (x33.id), .int .i64 (x33.pc)] 32 (0, 0)), Old w no] := H124.absorbI (new := [Y115.I]) [2] H130
                    have hl127 := toldV_len hPJ2 x33.id
                    refine b_ret rfl rfl ?_
                    refine l_of (s_val (v := .tuple #[.slice pt125 ((toldV (goA A x33.id) x33.id).length) ct126, .int .i64 ((findE (goA A x33.id) x33.id))]) (wt0 rfl) rfl rfl (x_move rfl rfl) ?_)
                    refine l_of (s_val (v := .slice pt125 ((toldV (goA A x33.id) x33.id).length) ct126) (wt0 rfl) rfl rfl (x_extract rfl rfl rfl) ?_)
                    refine l_of (s_val (v := .int .i64 ((findE (goA A x33.id) x33.id))) (wt0 rfl) rfl rfl (x_extract rfl rfl rfl) ?_)
                    refine l_of (s_val (v := .slice pt125 ((toldV (goA A x33.id) x33.id).length) ct126) (wt0 rfl) rfl rfl (x_assign rfl rfl) ?_)
                    refine l_of (s_val (v := .int .i64 ((findE (goA A x33.id) x33.id))) (wt0 rfl) rfl rfl (x_assign rfl rfl) ?_)
                    refine g_nil ?_
                    refine g_then ?_
                    refine g_weak [(1, .int .i64 pc), (7, .pointer (some ⟨Y10.g, 0, none⟩)), (9, .pointer (some ⟨Y24.h, 0, none⟩)), (12, .pointer (some ⟨g34, 0, none⟩)), (13, .bool (decide (((goE A x33.id) : Int) = (goE A x33.id)))), (26, .slice pt120 ((toldV (goA A x33.id) x33.id).length) ct121), (27, .int .i64 ((findE (goA A x33.id) x33.id))), (28, .slice pt125 ((toldV (goA A x33.id) x33.id).length) ct126), (29, .int .i64 ((findE (goA A x33.id) x33.id))), (78, .slice p n c), (79, .int .i64 ((n : Int))), (80, .int .i64 ((j9 : Int)))] ⟨rfl, rfl, rfl, rfl, rfl, rfl, rfl, rfl, rfl, rfl, rfl, rfl, trivial⟩ ?_
                    refine g_seq ?_
                    refine g_region ?_
                    refine l_of (s_val (v := .pointer (some ⟨Y10.g, 0, none⟩)) (wt0 rfl) rfl rfl (x_move rfl rfl) ?_)
                    refine l_of (s_val (v := .pointer (some ⟨g34, 2, none⟩)) (wt0 rfl) rfl rfl (x_fieldAddr rfl rfl fo32_2 rfl) ?_)
                    refine l_of (s_val (v := .int .i64 (x33.pc)) (wt0 rfl) rfl rfl (x_load1 H130 3 rfl rfl Tryd.underlying3 rfl rfl rfl) ?_)
                    refine l_of (s_call (wt0 rfl) (x_call' rfl rfl cl19) (count_gx (k := x33.pc) hPJ2 (by omega) hYg111 hYA112 _ (H130.takes [2] (by decide))) ?_)
                    rintro _ wq131 ⟨rfl, H132⟩
                    replace H132 : S wq131 [Y110.I, Y115.I, Rw 3 1 pt120 ((toldV (goA A x33.id) x33.id).length) ct121 (fl intL (toldV (goA A x33.id) x33.id)), Ob g34 (.cells #[.int .i64 (x33.kind), .int .i64 (x33.id), .int .i64 (x33.pc)] 32 (0, 0)), Old w no] := H130.absorbI (new := [Y110.I]) [2] H132
                    refine b_ret rfl rfl ?_
                    refine l_of (s_val (v := .tuple #[.int .i64 ((countT (goA A x33.id) x33.pc)), .int .i64 ((countH (goA A x33.id) x33.pc)), .int .i64 ((countE (goA A x33.id) x33.pc))]) (wt0 rfl) rfl rfl (x_move rfl rfl) ?_)
                    refine l_of (s_val (v := .int .i64 ((countT (goA A x33.id) x33.pc))) (wt0 rfl) rfl rfl (x_extract rfl rfl rfl) ?_)
                    refine l_of (s_val (v := .int .i64 ((countH (goA A x33.id) x33.pc))) (wt0 rfl) rfl rfl (x_extract rfl rfl rfl) ?_)
                    refine l_of (s_val (v := .int .i64 ((countE (goA A x33.id) x33.pc))) (wt0 rfl) rfl rfl (x_extract rfl rfl rfl) ?_)
                    refine l_of (s_val (v := .int .i64 ((countT (goA A x33.id) x33.pc))) (wt0 rfl) rfl rfl (x_assign rfl rfl) ?_)
                    refine l_of (s_val (v := .int .i64 ((countH (goA A x33.id) x33.pc))) (wt0 rfl) rfl rfl (x_assign rfl rfl) ?_)
                    refine l_of (s_val (v := .int .i64 ((countE (goA A x33.id) x33.pc))) (wt0 rfl) rfl rfl (x_assign rfl rfl) ?_)
                    refine g_nil ?_
                    refine g_then ?_
                    refine g_seq ?_
                    refine g_region ?_
                    refine l_of (s_val (v := .pointer (some ⟨Y24.h, 0, none⟩)) (wt0 rfl) rfl rfl (x_move rfl rfl) ?_)
                    refine l_of (s_val (v := .pointer (some ⟨g34, 2, none⟩)) (wt0 rfl) rfl rfl (x_fieldAddr rfl rfl fo32_2 rfl) ?_)
                    refine l_of (s_val (v := .int .i64 (x33.pc)) (wt0 rfl) rfl rfl (x_load1 H132 3 rfl rfl Tryd.underlying3 rfl rfl rfl) ?_)
                    refine l_of (s_call (wt0 rfl) (x_call' rfl rfl cl14) (count_gr (k := x33.pc) hPJ2 (by omega) hYg116 hYA117 _ (H132.takes [1] (by decide))) ?_)
                    rintro _ wq133 ⟨rfl, H134⟩
                    replace H134 : S wq133 [Y115.I, Y110.I, Rw 3 1 pt120 ((toldV (goA A x33.id) x33.id).length) ct121 (fl intL (toldV (goA A x33.id) x33.id)), Ob g34 (.cells #[.int .i64 (x33.kind), .int .i64 (x33.id), .int .i64 (x33.pc)] 32 (0, 0)), Old w no] := H132.absorbI (new := [Y115.I]) [1] H134
                    refine b_ret rfl rfl ?_
                    refine l_of (s_val (v := .tuple #[.int .i64 ((countT (goA A x33.id) x33.pc)), .int .i64 ((countH (goA A x33.id) x33.pc)), .int .i64 ((countE (goA A x33.id) x33.pc))]) (wt0 rfl) rfl rfl (x_move rfl rfl) ?_)
                    refine l_of (s_val (v := .int .i64 ((countT (goA A x33.id) x33.pc))) (wt0 rfl) rfl rfl (x_extract rfl rfl rfl) ?_)
                    refine l_of (s_val (v := .int .i64 ((countH (goA A x33.id) x33.pc))) (wt0 rfl) rfl rfl (x_extract rfl rfl rfl) ?_)
                    refine l_of (s_val (v := .int .i64 ((countE (goA A x33.id) x33.pc))) (wt0 rfl) rfl rfl (x_extract rfl rfl rfl) ?_)
                    refine l_of (s_val (v := .int .i64 ((countT (goA A x33.id) x33.pc))) (wt0 rfl) rfl rfl (x_assign rfl rfl) ?_)
                    refine l_of (s_val (v := .int .i64 ((countH (goA A x33.id) x33.pc))) (wt0 rfl) rfl rfl (x_assign rfl rfl) ?_)
                    refine l_of (s_val (v := .int .i64 ((countE (goA A x33.id) x33.pc))) (wt0 rfl) rfl rfl (x_assign rfl rfl) ?_)
                    refine g_nil ?_
                    refine g_then ?_
                    refine g_weak [(1, .int .i64 pc), (7, .pointer (some ⟨Y10.g, 0, none⟩)), (9, .pointer (some ⟨Y24.h, 0, none⟩)), (13, .bool (decide (((goE A x33.id) : Int) = (goE A x33.id)))), (26, .slice pt120 ((toldV (goA A x33.id) x33.id).length) ct121), (27, .int .i64 ((findE (goA A x33.id) x33.id))), (28, .slice pt125 ((toldV (goA A x33.id) x33.id).length) ct126), (29, .int .i64 ((findE (goA A x33.id) x33.id))), (30, .int .i64 ((countT (goA A x33.id) x33.pc))), (31, .int .i64 ((countH (goA A x33.id) x33.pc))), (32, .int .i64 ((countE (goA A x33.id) x33.pc))), (33, .int .i64 ((countT (goA A x33.id) x33.pc))), (34, .int .i64 ((countH (goA A x33.id) x33.pc))), (35, .int .i64 ((countE (goA A x33.id) x33.pc))), (78, .slice p n c), (79, .int .i64 ((n : Int))), (80, .int .i64 ((j9 : Int)))] ⟨rfl, rfl, rfl, rfl, rfl, rfl, rfl, rfl, rfl, rfl, rfl, rfl, rfl, rfl, rfl, rfl, rfl, trivial⟩ ?_
                    refine g_seq ?_
                    refine g_region ?_
                    refine l_of (s_val (v := .bool (decide (((goE A x33.id) : Int) = (goE A x33.id)))) (wt0 rfl) rfl rfl (x_move rfl rfl) ?_)
                    refine l_of (s_val (v := .bool (!decide (((goE A x33.id) : Int) = (goE A x33.id)))) (wt0 rfl) rfl rfl (x_not (b := decide (((goE A x33.id) : Int) = (goE A x33.id))) rfl rfl) ?_)
                    refine l_of (s_val (v := .bool (!decide (((goE A x33.id) : Int) = (goE A x33.id)))) (wt0 rfl) rfl rfl (x_move rfl rfl) ?_)
                    refine l_of (s_val (v := .slice pt120 ((toldV (goA A x33.id) x33.id).length) ct121) (wt1 rfl rfl rfl rfl (nf rfl)) rfl rfl (x_move rfl rfl) ?_)
                    refine l_of (s_val (v := .slice pt125 ((toldV (goA A x33.id) x33.id).length) ct126) (wt1 rfl rfl rfl rfl (nf rfl)) rfl rfl (x_move rfl rfl) ?_)
                    refine l_of (s_call (wt1 rfl rfl rfl rfl (nf rfl)) (x_call' rfl rfl cl20) (same_i (toldV (goA A x33.id) x33.id) (by omega) pt120 ((toldV (goA A x33.id) x33.id).length) ct121 pt125 ((toldV (goA A x33.id) x33.id).length) ct126 _ (H134.rwReads (k := 2) rfl) ((hT128 _ (H134.takes [0] (by decide))))) ?_)
                    rintro _ wq135 ⟨rfl, H136⟩
                    replace H136 : S wq135 [Y115.I, Y110.I, Rw 3 1 pt120 ((toldV (goA A x33.id) x33.id).length) ct121 (fl intL (toldV (goA A x33.id) x33.id)), Ob g34 (.cells #[.int .i64 (x33.kind), .int .i64 (x33.id), .int .i64 (x33.pc)] 32 (0, 0)), Old w no] := H134.absorb (new := []) H136
                    refine b_ret rfl rfl ?_
                    refine l_of (s_val (v := .bool false) (wt1 rfl rfl rfl rfl (nf rfl)) rfl rfl (x_not (b := true) rfl rfl) ?_)
                    refine l_of (s_val (v := .bool false) (wt0 rfl) rfl rfl (x_pick_f rfl rfl (nf rfl) rfl) ?_)
                    refine l_of (s_val (v := .bool false) (wt0 rfl) rfl rfl (x_move rfl rfl) ?_)
                    refine l_of (s_val (v := .int .i64 ((findE (goA A x33.id) x33.id))) (wt1 rfl rfl rfl rfl rfl) rfl rfl (x_move rfl rfl) ?_)
                    refine l_of (s_val (v := .int .i64 ((findE (goA A x33.id) x33.id))) (wt1 rfl rfl rfl rfl rfl) rfl rfl (x_move rfl rfl) ?_)
                    refine l_of (s_val (v := .bool (!decide (((findE (goA A x33.id) x33.id) : Int) = (findE (goA A x33.id) x33.id)))) (wt1 rfl rfl rfl rfl rfl) rfl rfl (x_bin rfl rfl rfl b_neq) ?_)
                    refine l_of (s_val (v := .bool (!decide (((findE (goA A x33.id) x33.id) : Int) = (findE (goA A x33.id) x33.id)))) (wt0 rfl) rfl rfl (x_pick_f rfl rfl rfl rfl) ?_)
                    refine l_of (s_val (v := .bool (!decide (((findE (goA A x33.id) x33.id) : Int) = (findE (goA A x33.id) x33.id)))) (wt0 rfl) rfl rfl (x_move rfl rfl) ?_)
                    refine l_of (s_val (v := .int .i64 ((countT (goA A x33.id) x33.pc))) (wt1 rfl rfl rfl rfl (nf rfl)) rfl rfl (x_move rfl rfl) ?_)
                    refine l_of (s_val (v := .int .i64 ((countT (goA A x33.id) x33.pc))) (wt1 rfl rfl rfl rfl (nf rfl)) rfl rfl (x_move rfl rfl) ?_)
                    refine l_of (s_val (v := .bool (!decide (((countT (goA A x33.id) x33.pc) : Int) = (countT (goA A x33.id) x33.pc)))) (wt1 rfl rfl rfl rfl (nf rfl)) rfl rfl (x_bin rfl rfl rfl b_neq) ?_)
                    refine l_of (s_val (v := .bool (!decide (((countT (goA A x33.id) x33.pc) : Int) = (countT (goA A x33.id) x33.pc)))) (wt0 rfl) rfl rfl (x_pick_f rfl rfl (nf rfl) rfl) ?_)
                    refine l_of (s_val (v := .bool (!decide (((countT (goA A x33.id) x33.pc) : Int) = (countT (goA A x33.id) x33.pc)))) (wt0 rfl) rfl rfl (x_move rfl rfl) ?_)
                    refine l_of (s_val (v := .int .i64 ((countH (goA A x33.id) x33.pc))) (wt1 rfl rfl rfl rfl (nf rfl)) rfl rfl (x_move rfl rfl) ?_)
                    refine l_of (s_val (v := .int .i64 ((countH (goA A x33.id) x33.pc))) (wt1 rfl rfl rfl rfl (nf rfl)) rfl rfl (x_move rfl rfl) ?_)
                    refine l_of (s_val (v := .bool (!decide (((countH (goA A x33.id) x33.pc) : Int) = (countH (goA A x33.id) x33.pc)))) (wt1 rfl rfl rfl rfl (nf rfl)) rfl rfl (x_bin rfl rfl rfl b_neq) ?_)
                    refine l_of (s_val (v := .bool (!decide (((countH (goA A x33.id) x33.pc) : Int) = (countH (goA A x33.id) x33.pc)))) (wt0 rfl) rfl rfl (x_pick_f rfl rfl (nf rfl) rfl) ?_)
                    refine l_of (s_val (v := .bool (!decide (((countH (goA A x33.id) x33.pc) : Int) = (countH (goA A x33.id) x33.pc)))) (wt0 rfl) rfl rfl (x_move rfl rfl) ?_)
                    refine l_of (s_val (v := .int .i64 ((countE (goA A x33.id) x33.pc))) (wt1 rfl rfl rfl rfl (nf rfl)) rfl rfl (x_move rfl rfl) ?_)
                    refine l_of (s_val (v := .int .i64 ((countE (goA A x33.id) x33.pc))) (wt1 rfl rfl rfl rfl (nf rfl)) rfl rfl (x_move rfl rfl) ?_)
                    refine l_of (s_val (v := .bool (!decide (((countE (goA A x33.id) x33.pc) : Int) = (countE (goA A x33.id) x33.pc)))) (wt1 rfl rfl rfl rfl (nf rfl)) rfl rfl (x_bin rfl rfl rfl b_neq) ?_)
                    refine l_of (s_val (v := .bool (!decide (((countE (goA A x33.id) x33.pc) : Int) = (countE (goA A x33.id) x33.pc)))) (wt0 rfl) rfl rfl (x_pick_f rfl rfl (nf rfl) rfl) ?_)
                    refine l_of (s_val (v := .bool (!decide (((countE (goA A x33.id) x33.pc) : Int) = (countE (goA A x33.id) x33.pc)))) (wt0 rfl) rfl rfl (x_move rfl rfl) ?_)
                    refine l_of (s_val (v := .pointer (some ⟨Y10.g, 0, none⟩)) (wt1 rfl rfl rfl rfl (nf rfl)) rfl rfl (x_move rfl rfl) ?_)
                    refine l_of (s_call (wt1 rfl rfl rfl rfl (nf rfl)) (x_call' rfl rfl cl21) (whole_gx hPJ2 (by omega) hYg111 hYA112 _ (H136.takes [1] (by decide))) ?_)
                    rintro _ wq137 ⟨rfl, H138⟩
                    replace H138 : S wq137 [Y110.I, Y115.I, Rw 3 1 pt120 ((toldV (goA A x33.id) x33.id).length) ct121 (fl intL (toldV (goA A x33.id) x33.id)), Ob g34 (.cells #[.int .i64 (x33.kind), .int .i64 (x33.id), .int .i64 (x33.pc)] 32 (0, 0)), Old w no] := H136.absorbI (new := [Y110.I]) [1] H138
                    refine b_ret rfl rfl ?_
                    refine l_of (s_val (v := .pointer (some ⟨Y24.h, 0, none⟩)) (wt1 rfl rfl rfl rfl (nf rfl)) rfl rfl (x_move rfl rfl) ?_)
                    refine l_of (s_call (wt1 rfl rfl rfl rfl (nf rfl)) (x_call' rfl rfl cl22) (whole_gr hPJ2 (by omega) hYg116 hYA117 _ (H138.takes [1] (by decide))) ?_)
                    rintro _ wq139 ⟨rfl, H140⟩
                    replace H140 : S wq139 [Y115.I, Y110.I, Rw 3 1 pt120 ((toldV (goA A x33.id) x33.id).length) ct121 (fl intL (toldV (goA A x33.id) x33.id)), Ob g34 (.cells #[.int .i64 (x33.kind), .int .i64 (x33.id), .int .i64 (x33.pc)] 32 (0, 0)), Old w no] := H138.absorbI (new := [Y115.I]) [1] H140
                    refine b_ret rfl rfl ?_
                    refine l_of (s_val (v := .bool (!(((wholeB (goA A x33.id))) == ((wholeB (goA A x33.id)))))) (wt1 rfl rfl rfl rfl (nf rfl)) rfl rfl (x_bin rfl rfl rfl (b_neN Tryd.underlying4 rfl)) ?_)
                    refine l_of (s_val (v := .bool (!(((wholeB (goA A x33.id))) == ((wholeB (goA A x33.id)))))) (wt0 rfl) rfl rfl (x_pick_f rfl rfl (nf rfl) rfl) ?_)
                    refine g_nil ?_
                    refine g_then ?_
                    refine g_weak [(1, .int .i64 pc), (7, .pointer (some ⟨Y10.g, 0, none⟩)), (9, .pointer (some ⟨Y24.h, 0, none⟩)), (78, .slice p n c), (79, .int .i64 ((n : Int))), (80, .int .i64 ((j9 : Int))), (266, .bool (!(((wholeB (goA A x33.id))) == ((wholeB (goA A x33.id))))))] ⟨rfl, rfl, rfl, rfl, rfl, rfl, rfl, trivial⟩ ?_
                    refine g_cond_f rfl (neg_of (beq_self_eq_true ((wholeB (goA A x33.id))))) ?_
                    refine g_skip ?_
                    refine g_in ?_
                    refine g_then ?_
                    refine g_region ?_
                    refine l_of (s_val (v := .int .i64 (((j9 + 1 : Nat) : Int))) (wt0 rfl) rfl rfl (x_bin rfl rfl rfl (b_add (by rw [w64 (by omega)]; omega))) ?_)
                    refine l_of (s_val (v := .int .i64 (((j9 + 1 : Nat) : Int))) (wt0 rfl) rfl rfl (x_move rfl rfl) ?_)
                    refine g_nil ?_
                    refine g_then ?_
                    refine g_round (i := (j9, X, Z, A)) ((j9 + 1), Y110, Y115, (goA A x33.id)) ?_ ?_ ?_
                    · exact ⟨rfl, rfl, rfl, rfl, rfl, rfl, trivial⟩
                    · exact ⟨by omega, (hPJ.go (id := x33.id)), hYg111, hYA112, hYg116, hYA117, ((go_n).trans hAn), (H140.takes [1, 0, 4] (by decide))⟩
                    · (try dsimp only); omega
                  · skip
                    refine g_cond_f rfl (decide_eq_false hb107) ?_
                    refine g_seq ?_
                    refine g_seq ?_
                    refine g_region ?_
                    refine l_of (s_val (v := .bool (decide ((x33.kind : Int) = 4))) (wt0 rfl) rfl rfl (x_bin rfl rfl rfl b_eql) ?_)
                    refine l_of (s_val (v := .bool (decide ((x33.kind : Int) = 4))) (wt0 rfl) rfl rfl (x_assign rfl rfl) ?_)
                    refine g_nil ?_
                    refine g_then ?_
                    by_cases hb141 : (x33.kind : Int) = 4
                    · skip
                      refine g_cond_t rfl (decide_eq_true hb141) ?_
                      refine g_skip ?_
                      refine g_then ?_
                      refine g_weak [(1, .int .i64 pc), (7, .pointer (some ⟨Y10.g, 0, none⟩)), (9, .pointer (some ⟨Y24.h, 0, none⟩)), (12, .pointer (some ⟨g34, 0, none⟩)), (78, .slice p n c), (79, .int .i64 ((n : Int))), (80, .int .i64 ((j9 : Int))), (186, .bool (decide ((x33.kind : Int) = 4)))] ⟨rfl, rfl, rfl, rfl, rfl, rfl, rfl, rfl, trivial⟩ ?_
                      refine g_cond_t rfl (decide_eq_true hb141) ?_
                      refine g_any [] (fun wx => S wx [Ob g34 (.cells #[.int .i64 (x33.kind), .int .i64 (x33.id), .int .i64 (x33.pc)] 32 (0, 0))]) [] (by kernel_rfl) H38 (fun wq142 H143 => ?_)
                      refine a_take (v := .pointer (some ⟨Y10.g, 0, none⟩)) 0 rfl (wt0 rfl) rfl rfl rfl (by kernel_rfl) (by kernel_rfl) (by kernel_rfl) (by kernel_rfl) (H143.mask [true, false, false, false]) (fun wx H => x_move rfl rfl) ?_
                      refine a_take (v := .pointer (some ⟨g34, 1, none⟩)) 1 rfl (wt0 rfl) rfl rfl rfl (by kernel_rfl) (by kernel_rfl) (by kernel_rfl) (by kernel_rfl) (H143.mask [true, false, false, false]) (fun wx H => x_fieldAddr rfl rfl fo32_1 rfl) ?_
                      refine a_take (v := .int .i64 (x33.id)) 2 rfl (wt0 rfl) rfl rfl rfl (by kernel_rfl) (by kernel_rfl) (by kernel_rfl) (by kernel_rfl) (H143.mask [true, false, false, false]) (fun wx H => x_load1 H 0 rfl rfl Tryd.underlying3 rfl rfl rfl) ?_
                      refine a_take (v := .pointer (some ⟨g34, 2, none⟩)) 3 rfl (wt0 rfl) rfl rfl rfl (by kernel_rfl) (by kernel_rfl) (by kernel_rfl) (by kernel_rfl) (H143.mask [true, false, false, false]) (fun wx H => x_fieldAddr rfl rfl fo32_2 rfl) ?_
                      refine a_take (v := .int .i64 (x33.pc)) 4 rfl (wt0 rfl) rfl rfl rfl (by kernel_rfl) (by kernel_rfl) (by kernel_rfl) (by kernel_rfl) (H143.mask [true, false, false, false]) (fun wx H => x_load1 H 0 rfl rfl Tryd.underlying3 rfl rfl rfl) ?_
                      refine a_take (v := .pointer (some ⟨Y24.h, 0, none⟩)) 6 rfl (wt0 rfl) rfl rfl rfl (by kernel_rfl) (by kernel_rfl) (by kernel_rfl) (by kernel_rfl) (H143.mask [true, false, false, false]) (fun wx H => x_move rfl rfl) ?_
                      refine a_take (v := .pointer (some ⟨g34, 1, none⟩)) 7 rfl (wt0 rfl) rfl rfl rfl (by kernel_rfl) (by kernel_rfl) (by kernel_rfl) (by kernel_rfl) (H143.mask [true, false, false, false]) (fun wx H => x_fieldAddr rfl rfl fo32_1 rfl) ?_
                      refine a_take (v := .int .i64 (x33.id)) 8 rfl (wt0 rfl) rfl rfl rfl (by kernel_rfl) (by kernel_rfl) (by kernel_rfl) (by kernel_rfl) (H143.mask [true, false, false, false]) (fun wx H => x_load1 H 0 rfl rfl Tryd.underlying3 rfl rfl rfl) ?_
                      refine a_take (v := .pointer (some ⟨g34, 2, none⟩)) 9 rfl (wt0 rfl) rfl rfl rfl (by kernel_rfl) (by kernel_rfl) (by kernel_rfl) (by kernel_rfl) (H143.mask [true, false, false, false]) (fun wx H => x_fieldAddr rfl rfl fo32_2 rfl) ?_
                      refine a_take (v := .int .i64 (x33.pc)) 10 rfl (wt0 rfl) rfl rfl rfl (by kernel_rfl) (by kernel_rfl) (by kernel_rfl) (by kernel_rfl) (H143.mask [true, false, false, false]) (fun wx H => x_load1 H 0 rfl rfl Tryd.underlying3 rfl rfl rfl) ?_
                      refine a_one (i := 5) (by kernel_rfl) rfl ?_
                      refine s_call (wt0 rfl) (x_call' rfl rfl cl11) (holds_gx (id := x33.id) (k := x33.pc) hPJ (by omega) hXg hXA (hok _ (List.mem_of_getElem? hx33)).1 (hok _ (List.mem_of_getElem? hx33)).2 _ (H143.takes [1] (by decide))) ?_
                      rintro _ wq147 ⟨Y144, hYg145, hYA146, rfl, H148⟩
                      replace H148 : S wq147 [Y144.I, Ob g34 (.cells #[.int .i64 (x33.kind), .int .i64 (x33.id), .int .i64 (x33.pc)] 32 (0, 0)), Z.I, Old w no] := H143.absorbI (new := [Y144.I]) [1] H148
                      refine b_ret rfl rfl ?_
                      refine a_k (H148.mask [false, true, false, false]) ?_
                      refine a_one (i := 11) (by kernel_rfl) rfl ?_
                      refine s_call (wt0 rfl) (x_call' rfl rfl cl12) (holds_gr (id := x33.id) (k := x33.pc) hPJ (by omega) hZg hZA _ (H148.takes [2] (by decide))) ?_
                      rintro _ wq152 ⟨Y149, hYg150, hYA151, rfl, H153⟩
                      replace H153 : S wq152 [Y149.I, Y144.I, Ob g34 (.cells #[.int .i64 (x33.kind), .int .i64 (x33.id), .int .i64 (x33.pc)] 32 (0, 0)), Old w no] := H148.absorbI (new := [Y149.I]) [2] H153
                      refine b_ret rfl rfl ?_
                      refine a_k (H153.mask [false, false, true, false]) ?_
                      refine a_take (v := .bool (decide (((holdsE A x33.id x33.pc) : Int) = (holdsE A x33.id x33.pc)))) 12 rfl (wt0 rfl) rfl rfl rfl (by kernel_rfl) (by kernel_rfl) (by kernel_rfl) (by kernel_rfl) (H153.mask [false, false, true, false]) (fun wx H => x_bin rfl rfl rfl b_eql) ?_
                      refine a_take (v := .bool (decide (((holdsE A x33.id x33.pc) : Int) = (holdsE A x33.id x33.pc)))) 13 rfl (wt0 rfl) rfl rfl rfl (by kernel_rfl) (by kernel_rfl) (by kernel_rfl) (by kernel_rfl) (H153.mask [false, false, true, false]) (fun wx H => x_assign rfl rfl) ?_
                      refine a_done (by kernel_rfl) ?_
                      refine g_in ?_
                      refine g_then ?_
                      refine g_weak [(1, .int .i64 pc), (7, .pointer (some ⟨Y10.g, 0, none⟩)), (9, .pointer (some ⟨Y24.h, 0, none⟩)), (12, .pointer (some ⟨g34, 0, none⟩)), (13, .bool (decide (((holdsE A x33.id x33.pc) : Int) = (holdsE A x33.id x33.pc)))), (78, .slice p n c), (79, .int .i64 ((n : Int))), (80, .int .i64 ((j9 : Int)))] ⟨rfl, rfl, rfl, rfl, rfl, rfl, rfl, rfl, trivial⟩ ?_
                      refine g_seq ?_
                      refine g_region ?_
                      have hPJ2 := (hPJ.holds (id := x33.id) (k := x33.pc))
                      refine l_of (s_val (v := .pointer (some ⟨Y10.g, 0, none⟩)) (wt0 rfl) rfl rfl (x_move rfl rfl) ?_)
                      refine l_of (s_val (v := .pointer (some ⟨g34, 1, none⟩)) (wt0 rfl) rfl rfl (x_fieldAddr rfl rfl fo32_1 rfl) ?_)
                      refine l_of (s_val (v := .int .i64 (x33.id)) (wt0 rfl) rfl rfl (x_load1 H153 2 rfl rfl Tryd.underlying3 rfl rfl rfl) ?_)
                      refine l_of (s_call (wt0 rfl) (x_call' rfl rfl cl18) (told_gx (id := x33.id) hPJ2 (by omega) hYg145 hYA146 (hok _ (List.mem_of_getElem? hx33)).1 _ (H153.takes [1] (by decide))) ?_)
                      rintro _ wq157 ⟨pt154, ct155, rfl, H158⟩
                      replace H158 : S wq157 [Rw 3 1 pt154 ((toldV (holdsA A x33.id x33.pc) x33.id).length) ct155 (fl intL (toldV (holdsA A x33.id x33.pc) x33.id)), Y144.I, Y149.I, Ob g34 (.cells #[.int .i64 (x33.kind), .int .i64 (x33.id), .int .i64 (x33.pc)] 32 (0, 0)), Old w no] := H153.absorbI (new := [Rw 3 1 pt154 ((toldV (holdsA A x33.id x33.pc) x33.id).length) ct155 (fl intL (toldV (holdsA A x33.id x33.pc) x33.id)), Y144.I]) [1] H158
                      have hl156 := toldV_len hPJ2 x33.id
                      refine b_ret rfl rfl ?_
                      refine l_of (s_val (v := .tuple #[.slice pt154 ((toldV (holdsA A x33.id x33.pc) x33.id).length) ct155, .int .i64 ((findE (holdsA A x33.id x33.pc) x33.id))]) (wt0 rfl) rfl rfl (x_move rfl rfl) ?_)
                      refine l_of (s_val (v := .slice pt154 ((toldV (holdsA A x33.id x33.pc) x33.id).length) ct155) (wt0 rfl) rfl rfl (x_extract rfl rfl rfl) ?_)
                      refine l_of (s_val (v := .int .i64 ((findE (holdsA A x33.id x33.pc) x33.id))) (wt0 rfl) rfl rfl (x_extract rfl rfl rfl) ?_)
                      refine l_of (s_val (v := .slice pt154 ((toldV (holdsA A x33.id x33.pc) x33.id).length) ct155) (wt0 rfl) rfl rfl (x_assign rfl rfl) ?_)
                      refine l_of (s_val (v := .int .i64 ((findE (holdsA A x33.id x33.pc) x33.id))) (wt0 rfl) rfl rfl (x_assign rfl rfl) ?_)
                      refine g_nil ?_
                      refine g_then ?_
                      refine g_seq ?_
                      refine g_region ?_
                      refine l_of (s_val (v := .pointer (some ⟨Y24.h, 0, none⟩)) (wt0 rfl) rfl rfl (x_move rfl rfl) ?_)
                      refine l_of (s_val (v := .pointer (some ⟨g34, 1, none⟩)) (wt0 rfl) rfl rfl (x_fieldAddr rfl rfl fo32_1 rfl) ?_)
                      refine l_of (s_val (v := .int .i64 (x33.id)) (wt0 rfl) rfl rfl (x_load1 H158 3 rfl rfl Tryd.underlying3 rfl rfl rfl) ?_)
                      refine l_of (s_call (wt0 rfl) (x_call' rfl rfl cl13) (told_gr (id := x33.id) hPJ2 (by omega) hYg150 hYA151 _ (H158.takes [2] (by decide))) ?_)
                      rintro _ wq163 ⟨pt159, ct160, rfl, hT162, H164⟩
                      replace H164 : S wq163 [Y149.I, Rw 3 1 pt154 ((toldV (holdsA A x33.id x33.pc) x33.id).length) ct155 (fl intL (toldV (holdsA A x33.id x33.pc) x33.id)), Y144.I, Ob g34 (.cells #[.int .i64 (x33.kind), .int .i64 (x33.id), .int .i64 (x33.pc)] 32 (0, 0)), Old w no] := H158.absorbI (new := [Y149.I]) [2] H164
                      have hl161 := toldV_len hPJ2 x33.id
                      refine b_ret rfl rfl ?_
                      refine l_of (s_val (v := .tuple #[.slice pt159 ((toldV (holdsA A x33.id x33.pc) x33.id).length) ct160, .int .i64 ((findE (holdsA A x33.id x33.pc) x33.id))]) (wt0 rfl) rfl rfl (x_move rfl rfl) ?_)
                      refine l_of (s_val (v := .slice pt159 ((toldV (holdsA A x33.id x33.pc) x33.id).length) ct160) (wt0 rfl) rfl rfl (x_extract rfl rfl rfl) ?_)
                      refine l_of (s_val (v := .int .i64 ((findE (holdsA A x33.id x33.pc) x33.id))) (wt0 rfl) rfl rfl (x_extract rfl rfl rfl) ?_)
                      refine l_of (s_val (v := .slice pt159 ((toldV (holdsA A x33.id x33.pc) x33.id).length) ct160) (wt0 rfl) rfl rfl (x_assign rfl rfl) ?_)
                      refine l_of (s_val (v := .int .i64 ((findE (holdsA A x33.id x33.pc) x33.id))) (wt0 rfl) rfl rfl (x_assign rfl rfl) ?_)
                      refine g_nil ?_
                      refine g_then ?_
                      refine g_weak [(1, .int .i64 pc), (7, .pointer (some ⟨Y10.g, 0, none⟩)), (9, .pointer (some ⟨Y24.h, 0, none⟩)), (12, .pointer (some ⟨g34, 0, none⟩)), (13, .bool (decide (((holdsE A x33.id x33.pc) : Int) = (holdsE A x33.id x33.pc)))), (26, .slice pt154 ((toldV (holdsA A x33.id x33.pc) x33.id).length) ct155), (27, .int .i64 ((findE (holdsA A x33.id x33.pc) x33.id))), (28, .slice pt159 ((toldV (holdsA A x33.id x33.pc) x33.id).length) ct160), (29, .int .i64 ((findE (holdsA A x33.id x33.pc) x33.id))), (78, .slice p n c), (79, .int .i64 ((n : Int))), (80, .int .i64 ((j9 : Int)))] ⟨rfl, rfl, rfl, rfl, rfl, rfl, rfl, rfl, rfl, rfl, rfl, rfl, trivial⟩ ?_
                      refine g_seq ?_
                      refine g_region ?_
                      refine l_of (s_val (v := .pointer (some ⟨Y10.g, 0, none⟩)) (wt0 rfl) rfl rfl (x_move rfl rfl) ?_)
                      refine l_of (s_val (v := .pointer (some ⟨g34, 2, none⟩)) (wt0 rfl) rfl rfl (x_fieldAddr rfl rfl fo32_2 rfl) ?_)
                      refine l_of (s_val (v := .int .i64 (x33.pc)) (wt0 rfl) rfl rfl (x_load1 H164 3 rfl rfl Tryd.underlying3 rfl rfl rfl) ?_)
                      refine l_of (s_call (wt0 rfl) (x_call' rfl rfl cl19) (count_gx (k := x33.pc) hPJ2 (by omega) hYg145 hYA146 _ (H164.takes [2] (by decide))) ?_)
                      rintro _ wq165 ⟨rfl, H166⟩
                      replace H166 : S wq165 [Y144.I, Y149.I, Rw 3 1 pt154 ((toldV (holdsA A x33.id x33.pc) x33.id).length) ct155 (fl intL (toldV (holdsA A x33.id x33.pc) x33.id)), Ob g34 (.cells #[.int .i64 (x33.kind), .int .i64 (x33.id), .int .i64 (x33.pc)] 32 (0, 0)), Old w no] := H164.absorbI (new := [Y144.I]) [2] H166
                      refine b_ret rfl rfl ?_
                      refine l_of (s_val (v := .tuple #[.int .i64 ((countT (holdsA A x33.id x33.pc) x33.pc)), .int .i64 ((countH (holdsA A x33.id x33.pc) x33.pc)), .int .i64 ((countE (holdsA A x33.id x33.pc) x33.pc))]) (wt0 rfl) rfl rfl (x_move rfl rfl) ?_)
                      refine l_of (s_val (v := .int .i64 ((countT (holdsA A x33.id x33.pc) x33.pc))) (wt0 rfl) rfl rfl (x_extract rfl rfl rfl) ?_)
                      refine l_of (s_val (v := .int .i64 ((countH (holdsA A x33.id x33.pc) x33.pc))) (wt0 rfl) rfl rfl (x_extract rfl rfl rfl) ?_)
                      refine l_of (s_val (v := .int .i64 ((countE (holdsA A x33.id x33.pc) x33.pc))) (wt0 rfl) rfl rfl (x_extract rfl rfl rfl) ?_)
                      refine l_of (s_val (v := .int .i64 ((countT (holdsA A x33.id x33.pc) x33.pc))) (wt0 rfl) rfl rfl (x_assign rfl rfl) ?_)
                      refine l_of (s_val (v := .int .i64 ((countH (holdsA A x33.id x33.pc) x33.pc))) (wt0 rfl) rfl rfl (x_assign rfl rfl) ?_)
                      refine l_of (s_val (v := .int .i64 ((countE (holdsA A x33.id x33.pc) x33.pc))) (wt0 rfl) rfl rfl (x_assign rfl rfl) ?_)
                      refine g_nil ?_
                      refine g_then ?_
                      refine g_seq ?_
                      refine g_region ?_
                      refine l_of (s_val (v := .pointer (some ⟨Y24.h, 0, none⟩)) (wt0 rfl) rfl rfl (x_move rfl rfl) ?_)
                      refine l_of (s_val (v := .pointer (some ⟨g34, 2, none⟩)) (wt0 rfl) rfl rfl (x_fieldAddr rfl rfl fo32_2 rfl) ?_)
                      refine l_of (s_val (v := .int .i64 (x33.pc)) (wt0 rfl) rfl rfl (x_load1 H166 3 rfl rfl Tryd.underlying3 rfl rfl rfl) ?_)
                      refine l_of (s_call (wt0 rfl) (x_call' rfl rfl cl14) (count_gr (k := x33.pc) hPJ2 (by omega) hYg150 hYA151 _ (H166.takes [1] (by decide))) ?_)
                      rintro _ wq167 ⟨rfl, H168⟩
                      replace H168 : S wq167 [Y149.I, Y144.I, Rw 3 1 pt154 ((toldV (holdsA A x33.id x33.pc) x33.id).length) ct155 (fl intL (toldV (holdsA A x33.id x33.pc) x33.id)), Ob g34 (.cells #[.int .i64 (x33.kind), .int .i64 (x33.id), .int .i64 (x33.pc)] 32 (0, 0)), Old w no] := H166.absorbI (new := [Y149.I]) [1] H168
                      refine b_ret rfl rfl ?_
                      refine l_of (s_val (v := .tuple #[.int .i64 ((countT (holdsA A x33.id x33.pc) x33.pc)), .int .i64 ((countH (holdsA A x33.id x33.pc) x33.pc)), .int .i64 ((countE (holdsA A x33.id x33.pc) x33.pc))]) (wt0 rfl) rfl rfl (x_move rfl rfl) ?_)
                      refine l_of (s_val (v := .int .i64 ((countT (holdsA A x33.id x33.pc) x33.pc))) (wt0 rfl) rfl rfl (x_extract rfl rfl rfl) ?_)
                      refine l_of (s_val (v := .int .i64 ((countH (holdsA A x33.id x33.pc) x33.pc))) (wt0 rfl) rfl rfl (x_extract rfl rfl rfl) ?_)
                      refine l_of (s_val (v := .int .i64 ((countE (holdsA A x33.id x33.pc) x33.pc))) (wt0 rfl) rfl rfl (x_extract rfl rfl rfl) ?_)
                      refine l_of (s_val (v := .int .i64 ((countT (holdsA A x33.id x33.pc) x33.pc))) (wt0 rfl) rfl rfl (x_assign rfl rfl) ?_)
                      refine l_of (s_val (v := .int .i64 ((countH (holdsA A x33.id x33.pc) x33.pc))) (wt0 rfl) rfl rfl (x_assign rfl rfl) ?_)
                      refine l_of (s_val (v := .int .i64 ((countE (holdsA A x33.id x33.pc) x33.pc))) (wt0 rfl) rfl rfl (x_assign rfl rfl) ?_)
                      refine g_nil ?_
                      refine g_then ?_
                      refine g_weak [(1, .int .i64 pc), (7, .pointer (some ⟨Y10.g, 0, none⟩)), (9, .pointer (some ⟨Y24.h, 0, none⟩)), (13, .bool (decide (((holdsE A x33.id x33.pc) : Int) = (holdsE A x33.id x33.pc)))), (26, .slice pt154 ((toldV (holdsA A x33.id x33.pc) x33.id).length) ct155), (27, .int .i64 ((findE (holdsA A x33.id x33.pc) x33.id))), (28, .slice pt159 ((toldV (holdsA A x33.id x33.pc) x33.id).length) ct160), (29, .int .i64 ((findE (holdsA A x33.id x33.pc) x33.id))), (30, .int .i64 ((countT (holdsA A x33.id x33.pc) x33.pc))), (31, .int .i64 ((countH (holdsA A x33.id x33.pc) x33.pc))), (32, .int .i64 ((countE (holdsA A x33.id x33.pc) x33.pc))), (33, .int .i64 ((countT (holdsA A x33.id x33.pc) x33.pc))), (34, .int .i64 ((countH (holdsA A x33.id x33.pc) x33.pc))), (35, .int .i64 ((countE (holdsA A x33.id x33.pc) x33.pc))), (78, .slice p n c), (79, .int .i64 ((n : Int))), (80, .int .i64 ((j9 : Int)))] ⟨rfl, rfl, rfl, rfl, rfl, rfl, rfl, rfl, rfl, rfl, rfl, rfl, rfl, rfl, rfl, rfl, rfl, trivial⟩ ?_
                      refine g_seq ?_
                      refine g_region ?_
                      refine l_of (s_val (v := .bool (decide (((holdsE A x33.id x33.pc) : Int) = (holdsE A x33.id x33.pc)))) (wt0 rfl) rfl rfl (x_move rfl rfl) ?_)
                      refine l_of (s_val (v := .bool (!decide (((holdsE A x33.id x33.pc) : Int) = (holdsE A x33.id x33.pc)))) (wt0 rfl) rfl rfl (x_not (b := decide (((holdsE A x33.id x33.pc) : Int) = (holdsE A x33.id x33.pc))) rfl rfl) ?_)
                      refine l_of (s_val (v := .bool (!decide (((holdsE A x33.id x33.pc) : Int) = (holdsE A x33.id x33.pc)))) (wt0 rfl) rfl rfl (x_move rfl rfl) ?_)
                      refine l_of (s_val (v := .slice pt154 ((toldV (holdsA A x33.id x33.pc) x33.id).length) ct155) (wt1 rfl rfl rfl rfl (nf rfl)) rfl rfl (x_move rfl rfl) ?_)
                      refine l_of (s_val (v := .slice pt159 ((toldV (holdsA A x33.id x33.pc) x33.id).length) ct160) (wt1 rfl rfl rfl rfl (nf rfl)) rfl rfl (x_move rfl rfl) ?_)
                      refine l_of (s_call (wt1 rfl rfl rfl rfl (nf rfl)) (x_call' rfl rfl cl20) (same_i (toldV (holdsA A x33.id x33.pc) x33.id) (by omega) pt154 ((toldV (holdsA A x33.id x33.pc) x33.id).length) ct155 pt159 ((toldV (holdsA A x33.id x33.pc) x33.id).length) ct160 _ (H168.rwReads (k := 2) rfl) ((hT162 _ (H168.takes [0] (by decide))))) ?_)
                      rintro _ wq169 ⟨rfl, H170⟩
                      replace H170 : S wq169 [Y149.I, Y144.I, Rw 3 1 pt154 ((toldV (holdsA A x33.id x33.pc) x33.id).length) ct155 (fl intL (toldV (holdsA A x33.id x33.pc) x33.id)), Ob g34 (.cells #[.int .i64 (x33.kind), .int .i64 (x33.id), .int .i64 (x33.pc)] 32 (0, 0)), Old w no] := H168.absorb (new := []) H170
                      refine b_ret rfl rfl ?_
                      refine l_of (s_val (v := .bool false) (wt1 rfl rfl rfl rfl (nf rfl)) rfl rfl (x_not (b := true) rfl rfl) ?_)
                      refine l_of (s_val (v := .bool false) (wt0 rfl) rfl rfl (x_pick_f rfl rfl (nf rfl) rfl) ?_)
                      refine l_of (s_val (v := .bool false) (wt0 rfl) rfl rfl (x_move rfl rfl) ?_)
                      refine l_of (s_val (v := .int .i64 ((findE (holdsA A x33.id x33.pc) x33.id))) (wt1 rfl rfl rfl rfl rfl) rfl rfl (x_move rfl rfl) ?_)
                      refine l_of (s_val (v := .int .i64 ((findE (holdsA A x33.id x33.pc) x33.id))) (wt1 rfl rfl rfl rfl rfl) rfl rfl (x_move rfl rfl) ?_)
                      refine l_of (s_val (v := .bool (!decide (((findE (holdsA A x33.id x33.pc) x33.id) : Int) = (findE (holdsA A x33.id x33.pc) x33.id)))) (wt1 rfl rfl rfl rfl rfl) rfl rfl (x_bin rfl rfl rfl b_neq) ?_)
                      refine l_of (s_val (v := .bool (!decide (((findE (holdsA A x33.id x33.pc) x33.id) : Int) = (findE (holdsA A x33.id x33.pc) x33.id)))) (wt0 rfl) rfl rfl (x_pick_f rfl rfl rfl rfl) ?_)
                      refine l_of (s_val (v := .bool (!decide (((findE (holdsA A x33.id x33.pc) x33.id) : Int) = (findE (holdsA A x33.id x33.pc) x33.id)))) (wt0 rfl) rfl rfl (x_move rfl rfl) ?_)
                      refine l_of (s_val (v := .int .i64 ((countT (holdsA A x33.id x33.pc) x33.pc))) (wt1 rfl rfl rfl rfl (nf rfl)) rfl rfl (x_move rfl rfl) ?_)
                      refine l_of (s_val (v := .int .i64 ((countT (holdsA A x33.id x33.pc) x33.pc))) (wt1 rfl rfl rfl rfl (nf rfl)) rfl rfl (x_move rfl rfl) ?_)
                      refine l_of (s_val (v := .bool (!decide (((countT (holdsA A x33.id x33.pc) x33.pc) : Int) = (countT (holdsA A x33.id x33.pc) x33.pc)))) (wt1 rfl rfl rfl rfl (nf rfl)) rfl rfl (x_bin rfl rfl rfl b_neq) ?_)
                      refine l_of (s_val (v := .bool (!decide (((countT (holdsA A x33.id x33.pc) x33.pc) : Int) = (countT (holdsA A x33.id x33.pc) x33.pc)))) (wt0 rfl) rfl rfl (x_pick_f rfl rfl (nf rfl) rfl) ?_)
                      refine l_of (s_val (v := .bool (!decide (((countT (holdsA A x33.id x33.pc) x33.pc) : Int) = (countT (holdsA A x33.id x33.pc) x33.pc)))) (wt0 rfl) rfl rfl (x_move rfl rfl) ?_)
                      refine l_of (s_val (v := .int .i64 ((countH (holdsA A x33.id x33.pc) x33.pc))) (wt1 rfl rfl rfl rfl (nf rfl)) rfl rfl (x_move rfl rfl) ?_)
                      refine l_of (s_val (v := .int .i64 ((countH (holdsA A x33.id x33.pc) x33.pc))) (wt1 rfl rfl rfl rfl (nf rfl)) rfl rfl (x_move rfl rfl) ?_)
                      refine l_of (s_val (v := .bool (!decide (((countH (holdsA A x33.id x33.pc) x33.pc) : Int) = (countH (holdsA A x33.id x33.pc) x33.pc)))) (wt1 rfl rfl rfl rfl (nf rfl)) rfl rfl (x_bin rfl rfl rfl b_neq) ?_)
                      refine l_of (s_val (v := .bool (!decide (((countH (holdsA A x33.id x33.pc) x33.pc) : Int) = (countH (holdsA A x33.id x33.pc) x33.pc)))) (wt0 rfl) rfl rfl (x_pick_f rfl rfl (nf rfl) rfl) ?_)
                      refine l_of (s_val (v := .bool (!decide (((countH (holdsA A x33.id x33.pc) x33.pc) : Int) = (countH (holdsA A x33.id x33.pc) x33.pc)))) (wt0 rfl) rfl rfl (x_move rfl rfl) ?_)
                      refine l_of (s_val (v := .int .i64 ((countE (holdsA A x33.id x33.pc) x33.pc))) (wt1 rfl rfl rfl rfl (nf rfl)) rfl rfl (x_move rfl rfl) ?_)
                      refine l_of (s_val (v := .int .i64 ((countE (holdsA A x33.id x33.pc) x33.pc))) (wt1 rfl rfl rfl rfl (nf rfl)) rfl rfl (x_move rfl rfl) ?_)
                      refine l_of (s_val (v := .bool (!decide (((countE (holdsA A x33.id x33.pc) x33.pc) : Int) = (countE (holdsA A x33.id x33.pc) x33.pc)))) (wt1 rfl rfl rfl rfl (nf rfl)) rfl rfl (x_bin rfl rfl rfl b_neq) ?_)
                      refine l_of (s_val (v := .bool (!decide (((countE (holdsA A x33.id x33.pc) x33.pc) : Int) = (countE (holdsA A x33.id x33.pc) x33.pc)))) (wt0 rfl) rfl rfl (x_pick_f rfl rfl (nf rfl) rfl) ?_)
                      refine l_of (s_val (v := .bool (!decide (((countE (holdsA A x33.id x33.pc) x33.pc) : Int) = (countE (holdsA A x33.id x33.pc) x33.pc)))) (wt0 rfl) rfl rfl (x_move rfl rfl) ?_)
                      refine l_of (s_val (v := .pointer (some ⟨Y10.g, 0, none⟩)) (wt1 rfl rfl rfl rfl (nf rfl)) rfl rfl (x_move rfl rfl) ?_)
                      refine l_of (s_call (wt1 rfl rfl rfl rfl (nf rfl)) (x_call' rfl rfl cl21) (whole_gx hPJ2 (by omega) hYg145 hYA146 _ (H170.takes [1] (by decide))) ?_)
                      rintro _ wq171 ⟨rfl, H172⟩
                      replace H172 : S wq171 [Y144.I, Y149.I, Rw 3 1 pt154 ((toldV (holdsA A x33.id x33.pc) x33.id).length) ct155 (fl intL (toldV (holdsA A x33.id x33.pc) x33.id)), Ob g34 (.cells #[.int .i64 (x33.kind), .int .i64 (x33.id), .int .i64 (x33.pc)] 32 (0, 0)), Old w no] := H170.absorbI (new := [Y144.I]) [1] H172
                      refine b_ret rfl rfl ?_
                      refine l_of (s_val (v := .pointer (some ⟨Y24.h, 0, none⟩)) (wt1 rfl rfl rfl rfl (nf rfl)) rfl rfl (x_move rfl rfl) ?_)
                      refine l_of (s_call (wt1 rfl rfl rfl rfl (nf rfl)) (x_call' rfl rfl cl22) (whole_gr hPJ2 (by omega) hYg150 hYA151 _ (H172.takes [1] (by decide))) ?_)
                      rintro _ wq173 ⟨rfl, H174⟩
                      replace H174 : S wq173 [Y149.I, Y144.I, Rw 3 1 pt154 ((toldV (holdsA A x33.id x33.pc) x33.id).length) ct155 (fl intL (toldV (holdsA A x33.id x33.pc) x33.id)), Ob g34 (.cells #[.int .i64 (x33.kind), .int .i64 (x33.id), .int .i64 (x33.pc)] 32 (0, 0)), Old w no] := H172.absorbI (new := [Y149.I]) [1] H174
                      refine b_ret rfl rfl ?_
                      refine l_of (s_val (v := .bool (!(((wholeB (holdsA A x33.id x33.pc))) == ((wholeB (holdsA A x33.id x33.pc)))))) (wt1 rfl rfl rfl rfl (nf rfl)) rfl rfl (x_bin rfl rfl rfl (b_neN Tryd.underlying4 rfl)) ?_)
                      refine l_of (s_val (v := .bool (!(((wholeB (holdsA A x33.id x33.pc))) == ((wholeB (holdsA A x33.id x33.pc)))))) (wt0 rfl) rfl rfl (x_pick_f rfl rfl (nf rfl) rfl) ?_)
                      refine g_nil ?_
                      refine g_then ?_
                      refine g_weak [(1, .int .i64 pc), (7, .pointer (some ⟨Y10.g, 0, none⟩)), (9, .pointer (some ⟨Y24.h, 0, none⟩)), (78, .slice p n c), (79, .int .i64 ((n : Int))), (80, .int .i64 ((j9 : Int))), (266, .bool (!(((wholeB (holdsA A x33.id x33.pc))) == ((wholeB (holdsA A x33.id x33.pc))))))] ⟨rfl, rfl, rfl, rfl, rfl, rfl, rfl, trivial⟩ ?_
                      refine g_cond_f rfl (neg_of (beq_self_eq_true ((wholeB (holdsA A x33.id x33.pc))))) ?_
                      refine g_skip ?_
                      refine g_in ?_
                      refine g_then ?_
                      refine g_region ?_
                      refine l_of (s_val (v := .int .i64 (((j9 + 1 : Nat) : Int))) (wt0 rfl) rfl rfl (x_bin rfl rfl rfl (b_add (by rw [w64 (by omega)]; omega))) ?_)
                      refine l_of (s_val (v := .int .i64 (((j9 + 1 : Nat) : Int))) (wt0 rfl) rfl rfl (x_move rfl rfl) ?_)
                      refine g_nil ?_
                      refine g_then ?_
                      refine g_round (i := (j9, X, Z, A)) ((j9 + 1), Y144, Y149, (holdsA A x33.id x33.pc)) ?_ ?_ ?_
                      · exact ⟨rfl, rfl, rfl, rfl, rfl, rfl, trivial⟩
                      · exact ⟨by omega, (hPJ.holds (id := x33.id) (k := x33.pc)), hYg145, hYA146, hYg150, hYA151, ((holds_n).trans hAn), (H174.takes [1, 0, 4] (by decide))⟩
                      · (try dsimp only); omega
                    · skip
                      refine g_cond_f rfl (decide_eq_false hb141) ?_
                      refine g_region ?_
                      refine l_of (s_val (v := .bool (decide ((x33.kind : Int) = 5))) (wt0 rfl) rfl rfl (x_bin rfl rfl rfl b_eql) ?_)
                      refine l_of (s_val (v := .bool (decide ((x33.kind : Int) = 5))) (wt0 rfl) rfl rfl (x_assign rfl rfl) ?_)
                      refine g_nil ?_
                      refine g_then ?_
                      refine g_weak [(1, .int .i64 pc), (7, .pointer (some ⟨Y10.g, 0, none⟩)), (9, .pointer (some ⟨Y24.h, 0, none⟩)), (12, .pointer (some ⟨g34, 0, none⟩)), (78, .slice p n c), (79, .int .i64 ((n : Int))), (80, .int .i64 ((j9 : Int))), (186, .bool (decide ((x33.kind : Int) = 5)))] ⟨rfl, rfl, rfl, rfl, rfl, rfl, rfl, rfl, trivial⟩ ?_
                      by_cases hb175 : (x33.kind : Int) = 5
                      · skip
                        refine g_cond_t rfl (decide_eq_true hb175) ?_
                        refine g_any [] (fun wx => S wx [Ob g34 (.cells #[.int .i64 (x33.kind), .int .i64 (x33.id), .int .i64 (x33.pc)] 32 (0, 0))]) [] (by kernel_rfl) H38 (fun wq176 H177 => ?_)
                        refine a_take (v := .pointer (some ⟨Y10.g, 0, none⟩)) 0 rfl (wt0 rfl) rfl rfl rfl (by kernel_rfl) (by kernel_rfl) (by kernel_rfl) (by kernel_rfl) (H177.mask [true, false, false, false]) (fun wx H => x_move rfl rfl) ?_
                        refine a_take (v := .pointer (some ⟨g34, 1, none⟩)) 1 rfl (wt0 rfl) rfl rfl rfl (by kernel_rfl) (by kernel_rfl) (by kernel_rfl) (by kernel_rfl) (H177.mask [true, false, false, false]) (fun wx H => x_fieldAddr rfl rfl fo32_1 rfl) ?_
                        refine a_take (v := .int .i64 (x33.id)) 2 rfl (wt0 rfl) rfl rfl rfl (by kernel_rfl) (by kernel_rfl) (by kernel_rfl) (by kernel_rfl) (H177.mask [true, false, false, false]) (fun wx H => x_load1 H 0 rfl rfl Tryd.underlying3 rfl rfl rfl) ?_
                        refine a_take (v := .pointer (some ⟨g34, 2, none⟩)) 3 rfl (wt0 rfl) rfl rfl rfl (by kernel_rfl) (by kernel_rfl) (by kernel_rfl) (by kernel_rfl) (H177.mask [true, false, false, false]) (fun wx H => x_fieldAddr rfl rfl fo32_2 rfl) ?_
                        refine a_take (v := .int .i64 (x33.pc)) 4 rfl (wt0 rfl) rfl rfl rfl (by kernel_rfl) (by kernel_rfl) (by kernel_rfl) (by kernel_rfl) (H177.mask [true, false, false, false]) (fun wx H => x_load1 H 0 rfl rfl Tryd.underlying3 rfl rfl rfl) ?_
                        refine a_take (v := .pointer (some ⟨Y24.h, 0, none⟩)) 6 rfl (wt0 rfl) rfl rfl rfl (by kernel_rfl) (by kernel_rfl) (by kernel_rfl) (by kernel_rfl) (H177.mask [true, false, false, false]) (fun wx H => x_move rfl rfl) ?_
                        refine a_take (v := .pointer (some ⟨g34, 1, none⟩)) 7 rfl (wt0 rfl) rfl rfl rfl (by kernel_rfl) (by kernel_rfl) (by kernel_rfl) (by kernel_rfl) (H177.mask [true, false, false, false]) (fun wx H => x_fieldAddr rfl rfl fo32_1 rfl) ?_
                        refine a_take (v := .int .i64 (x33.id)) 8 rfl (wt0 rfl) rfl rfl rfl (by kernel_rfl) (by kernel_rfl) (by kernel_rfl) (by kernel_rfl) (H177.mask [true, false, false, false]) (fun wx H => x_load1 H 0 rfl rfl Tryd.underlying3 rfl rfl rfl) ?_
                        refine a_take (v := .pointer (some ⟨g34, 2, none⟩)) 9 rfl (wt0 rfl) rfl rfl rfl (by kernel_rfl) (by kernel_rfl) (by kernel_rfl) (by kernel_rfl) (H177.mask [true, false, false, false]) (fun wx H => x_fieldAddr rfl rfl fo32_2 rfl) ?_
                        refine a_take (v := .int .i64 (x33.pc)) 10 rfl (wt0 rfl) rfl rfl rfl (by kernel_rfl) (by kernel_rfl) (by kernel_rfl) (by kernel_rfl) (H177.mask [true, false, false, false]) (fun wx H => x_load1 H 0 rfl rfl Tryd.underlying3 rfl rfl rfl) ?_
                        refine a_one (i := 5) (by kernel_rfl) rfl ?_
                        refine s_call (wt0 rfl) (x_call' rfl rfl cl11) (holds_gx (id := x33.id) (k := x33.pc) hPJ (by omega) hXg hXA (hok _ (List.mem_of_getElem? hx33)).1 (hok _ (List.mem_of_getElem? hx33)).2 _ (H177.takes [1] (by decide))) ?_
                        rintro _ wq181 ⟨Y178, hYg179, hYA180, rfl, H182⟩
                        replace H182 : S wq181 [Y178.I, Ob g34 (.cells #[.int .i64 (x33.kind), .int .i64 (x33.id), .int .i64 (x33.pc)] 32 (0, 0)), Z.I, Old w no] := H177.absorbI (new := [Y178.I]) [1] H182
                        refine b_ret rfl rfl ?_
                        refine a_k (H182.mask [false, true, false, false]) ?_
                        refine a_one (i := 11) (by kernel_rfl) rfl ?_
                        refine s_call (wt0 rfl) (x_call' rfl rfl cl12) (holds_gr (id := x33.id) (k := x33.pc) hPJ (by omega) hZg hZA _ (H182.takes [2] (by decide))) ?_
                        rintro _ wq186 ⟨Y183, hYg184, hYA185, rfl, H187⟩
                        replace H187 : S wq186 [Y183.I, Y178.I, Ob g34 (.cells #[.int .i64 (x33.kind), .int .i64 (x33.id), .int .i64 (x33.pc)] 32 (0, 0)), Old w no] := H182.absorbI (new := [Y183.I]) [2] H187
                        refine b_ret rfl rfl ?_
                        refine a_k (H187.mask [false, false, true, false]) ?_
                        refine a_take (v := .bool (decide (((holdsE A x33.id x33.pc) : Int) = (holdsE A x33.id x33.pc)))) 12 rfl (wt0 rfl) rfl rfl rfl (by kernel_rfl) (by kernel_rfl) (by kernel_rfl) (by kernel_rfl) (H187.mask [false, false, true, false]) (fun wx H => x_bin rfl rfl rfl b_eql) ?_
                        refine a_take (v := .bool (decide (((holdsE A x33.id x33.pc) : Int) = (holdsE A x33.id x33.pc)))) 13 rfl (wt0 rfl) rfl rfl rfl (by kernel_rfl) (by kernel_rfl) (by kernel_rfl) (by kernel_rfl) (H187.mask [false, false, true, false]) (fun wx H => x_assign rfl rfl) ?_
                        refine a_done (by kernel_rfl) ?_
                        refine g_in ?_
                        refine g_then ?_
                        refine g_weak [(1, .int .i64 pc), (7, .pointer (some ⟨Y10.g, 0, none⟩)), (9, .pointer (some ⟨Y24.h, 0, none⟩)), (12, .pointer (some ⟨g34, 0, none⟩)), (13, .bool (decide (((holdsE A x33.id x33.pc) : Int) = (holdsE A x33.id x33.pc)))), (78, .slice p n c), (79, .int .i64 ((n : Int))), (80, .int .i64 ((j9 : Int)))] ⟨rfl, rfl, rfl, rfl, rfl, rfl, rfl, rfl, trivial⟩ ?_
                        refine g_seq ?_
                        refine g_region ?_
                        have hPJ2 := (hPJ.holds (id := x33.id) (k := x33.pc))
                        refine l_of (s_val (v := .pointer (some ⟨Y10.g, 0, none⟩)) (wt0 rfl) rfl rfl (x_move rfl rfl) ?_)
                        refine l_of (s_val (v := .pointer (some ⟨g34, 1, none⟩)) (wt0 rfl) rfl rfl (x_fieldAddr rfl rfl fo32_1 rfl) ?_)
                        refine l_of (s_val (v := .int .i64 (x33.id)) (wt0 rfl) rfl rfl (x_load1 H187 2 rfl rfl Tryd.underlying3 rfl rfl rfl) ?_)
                        refine l_of (s_call (wt0 rfl) (x_call' rfl rfl cl18) (told_gx (id := x33.id) hPJ2 (by omega) hYg179 hYA180 (hok _ (List.mem_of_getElem? hx33)).1 _ (H187.takes [1] (by decide))) ?_)
                        rintro _ wq191 ⟨pt188, ct189, rfl, H192⟩
                        replace H192 : S wq191 [Rw 3 1 pt188 ((toldV (holdsA A x33.id x33.pc) x33.id).length) ct189 (fl intL (toldV (holdsA A x33.id x33.pc) x33.id)), Y178.I, Y183.I, Ob g34 (.cells #[.int .i64 (x33.kind), .int .i64 (x33.id), .int .i64 (x33.pc)] 32 (0, 0)), Old w no] := H187.absorbI (new := [Rw 3 1 pt188 ((toldV (holdsA A x33.id x33.pc) x33.id).length) ct189 (fl intL (toldV (holdsA A x33.id x33.pc) x33.id)), Y178.I]) [1] H192
                        have hl190 := toldV_len hPJ2 x33.id
                        refine b_ret rfl rfl ?_
                        refine l_of (s_val (v := .tuple #[.slice pt188 ((toldV (holdsA A x33.id x33.pc) x33.id).length) ct189, .int .i64 ((findE (holdsA A x33.id x33.pc) x33.id))]) (wt0 rfl) rfl rfl (x_move rfl rfl) ?_)
                        refine l_of (s_val (v := .slice pt188 ((toldV (holdsA A x33.id x33.pc) x33.id).length) ct189) (wt0 rfl) rfl rfl (x_extract rfl rfl rfl) ?_)
                        refine l_of (s_val (v := .int .i64 ((findE (holdsA A x33.id x33.pc) x33.id))) (wt0 rfl) rfl rfl (x_extract rfl rfl rfl) ?_)
                        refine l_of (s_val (v := .slice pt188 ((toldV (holdsA A x33.id x33.pc) x33.id).length) ct189) (wt0 rfl) rfl rfl (x_assign rfl rfl) ?_)
                        refine l_of (s_val (v := .int .i64 ((findE (holdsA A x33.id x33.pc) x33.id))) (wt0 rfl) rfl rfl (x_assign rfl rfl) ?_)
                        refine g_nil ?_
                        refine g_then ?_
                        refine g_seq ?_
                        refine g_region ?_
                        refine l_of (s_val (v := .pointer (some ⟨Y24.h, 0, none⟩)) (wt0 rfl) rfl rfl (x_move rfl rfl) ?_)
                        refine l_of (s_val (v := .pointer (some ⟨g34, 1, none⟩)) (wt0 rfl) rfl rfl (x_fieldAddr rfl rfl fo32_1 rfl) ?_)
                        refine l_of (s_val (v := .int .i64 (x33.id)) (wt0 rfl) rfl rfl (x_load1 H192 3 rfl rfl Tryd.underlying3 rfl rfl rfl) ?_)
                        refine l_of (s_call (wt0 rfl) (x_call' rfl rfl cl13) (told_gr (id := x33.id) hPJ2 (by omega) hYg184 hYA185 _ (H192.takes [2] (by decide))) ?_)
                        rintro _ wq197 ⟨pt193, ct194, rfl, hT196, H198⟩
                        replace H198 : S wq197 [Y183.I, Rw 3 1 pt188 ((toldV (holdsA A x33.id x33.pc) x33.id).length) ct189 (fl intL (toldV (holdsA A x33.id x33.pc) x33.id)), Y178.I, Ob g34 (.cells #[.int .i64 (x33.kind), .int .i64 (x33.id), .int .i64 (x33.pc)] 32 (0, 0)), Old w no] := H192.absorbI (new := [Y183.I]) [2] H198
                        have hl195 := toldV_len hPJ2 x33.id
                        refine b_ret rfl rfl ?_
                        refine l_of (s_val (v := .tuple #[.slice pt193 ((toldV (holdsA A x33.id x33.pc) x33.id).length) ct194, .int .i64 ((findE (holdsA A x33.id x33.pc) x33.id))]) (wt0 rfl) rfl rfl (x_move rfl rfl) ?_)
                        refine l_of (s_val (v := .slice pt193 ((toldV (holdsA A x33.id x33.pc) x33.id).length) ct194) (wt0 rfl) rfl rfl (x_extract rfl rfl rfl) ?_)
                        refine l_of (s_val (v := .int .i64 ((findE (holdsA A x33.id x33.pc) x33.id))) (wt0 rfl) rfl rfl (x_extract rfl rfl rfl) ?_)
                        refine l_of (s_val (v := .slice pt193 ((toldV (holdsA A x33.id x33.pc) x33.id).length) ct194) (wt0 rfl) rfl rfl (x_assign rfl rfl) ?_)
                        refine l_of (s_val (v := .int .i64 ((findE (holdsA A x33.id x33.pc) x33.id))) (wt0 rfl) rfl rfl (x_assign rfl rfl) ?_)
                        refine g_nil ?_
                        refine g_then ?_
                        refine g_weak [(1, .int .i64 pc), (7, .pointer (some ⟨Y10.g, 0, none⟩)), (9, .pointer (some ⟨Y24.h, 0, none⟩)), (12, .pointer (some ⟨g34, 0, none⟩)), (13, .bool (decide (((holdsE A x33.id x33.pc) : Int) = (holdsE A x33.id x33.pc)))), (26, .slice pt188 ((toldV (holdsA A x33.id x33.pc) x33.id).length) ct189), (27, .int .i64 ((findE (holdsA A x33.id x33.pc) x33.id))), (28, .slice pt193 ((toldV (holdsA A x33.id x33.pc) x33.id).length) ct194), (29, .int .i64 ((findE (holdsA A x33.id x33.pc) x33.id))), (78, .slice p n c), (79, .int .i64 ((n : Int))), (80, .int .i64 ((j9 : Int)))] ⟨rfl, rfl, rfl, rfl, rfl, rfl, rfl, rfl, rfl, rfl, rfl, rfl, trivial⟩ ?_
                        refine g_seq ?_
                        refine g_region ?_
                        refine l_of (s_val (v := .pointer (some ⟨Y10.g, 0, none⟩)) (wt0 rfl) rfl rfl (x_move rfl rfl) ?_)
                        refine l_of (s_val (v := .pointer (some ⟨g34, 2, none⟩)) (wt0 rfl) rfl rfl (x_fieldAddr rfl rfl fo32_2 rfl) ?_)
                        refine l_of (s_val (v := .int .i64 (x33.pc)) (wt0 rfl) rfl rfl (x_load1 H198 3 rfl rfl Tryd.underlying3 rfl rfl rfl) ?_)
                        refine l_of (s_call (wt0 rfl) (x_call' rfl rfl cl19) (count_gx (k := x33.pc) hPJ2 (by omega) hYg179 hYA180 _ (H198.takes [2] (by decide))) ?_)
                        rintro _ wq199 ⟨rfl, H200⟩
                        replace H200 : S wq199 [Y178.I, Y183.I, Rw 3 1 pt188 ((toldV (holdsA A x33.id x33.pc) x33.id).length) ct189 (fl intL (toldV (holdsA A x33.id x33.pc) x33.id)), Ob g34 (.cells #[.int .i64 (x33.kind), .int .i64 (x33.id), .int .i64 (x33.pc)] 32 (0, 0)), Old w no] := H198.absorbI (new := [Y178.I]) [2] H200
                        refine b_ret rfl rfl ?_
                        refine l_of (s_val (v := .tuple #[.int .i64 ((countT (holdsA A x33.id x33.pc) x33.pc)), .int .i64 ((countH (holdsA A x33.id x33.pc) x33.pc)), .int .i64 ((countE (holdsA A x33.id x33.pc) x33.pc))]) (wt0 rfl) rfl rfl (x_move rfl rfl) ?_)
                        refine l_of (s_val (v := .int .i64 ((countT (holdsA A x33.id x33.pc) x33.pc))) (wt0 rfl) rfl rfl (x_extract rfl rfl rfl) ?_)
                        refine l_of (s_val (v := .int .i64 ((countH (holdsA A x33.id x33.pc) x33.pc))) (wt0 rfl) rfl rfl (x_extract rfl rfl rfl) ?_)
                        refine l_of (s_val (v := .int .i64 ((countE (holdsA A x33.id x33.pc) x33.pc))) (wt0 rfl) rfl rfl (x_extract rfl rfl rfl) ?_)
                        refine l_of (s_val (v := .int .i64 ((countT (holdsA A x33.id x33.pc) x33.pc))) (wt0 rfl) rfl rfl (x_assign rfl rfl) ?_)
                        refine l_of (s_val (v := .int .i64 ((countH (holdsA A x33.id x33.pc) x33.pc))) (wt0 rfl) rfl rfl (x_assign rfl rfl) ?_)
                        refine l_of (s_val (v := .int .i64 ((countE (holdsA A x33.id x33.pc) x33.pc))) (wt0 rfl) rfl rfl (x_assign rfl rfl) ?_)
                        refine g_nil ?_
                        refine g_then ?_
                        refine g_seq ?_
                        refine g_region ?_
                        refine l_of (s_val (v := .pointer (some ⟨Y24.h, 0, none⟩)) (wt0 rfl) rfl rfl (x_move rfl rfl) ?_)
                        refine l_of (s_val (v := .pointer (some ⟨g34, 2, none⟩)) (wt0 rfl) rfl rfl (x_fieldAddr rfl rfl fo32_2 rfl) ?_)
                        refine l_of (s_val (v := .int .i64 (x33.pc)) (wt0 rfl) rfl rfl (x_load1 H200 3 rfl rfl Tryd.underlying3 rfl rfl rfl) ?_)
                        refine l_of (s_call (wt0 rfl) (x_call' rfl rfl cl14) (count_gr (k := x33.pc) hPJ2 (by omega) hYg184 hYA185 _ (H200.takes [1] (by decide))) ?_)
                        rintro _ wq201 ⟨rfl, H202⟩
                        replace H202 : S wq201 [Y183.I, Y178.I, Rw 3 1 pt188 ((toldV (holdsA A x33.id x33.pc) x33.id).length) ct189 (fl intL (toldV (holdsA A x33.id x33.pc) x33.id)), Ob g34 (.cells #[.int .i64 (x33.kind), .int .i64 (x33.id), .int .i64 (x33.pc)] 32 (0, 0)), Old w no] := H200.absorbI (new := [Y183.I]) [1] H202
                        refine b_ret rfl rfl ?_
                        refine l_of (s_val (v := .tuple #[.int .i64 ((countT (holdsA A x33.id x33.pc) x33.pc)), .int .i64 ((countH (holdsA A x33.id x33.pc) x33.pc)), .int .i64 ((countE (holdsA A x33.id x33.pc) x33.pc))]) (wt0 rfl) rfl rfl (x_move rfl rfl) ?_)
                        refine l_of (s_val (v := .int .i64 ((countT (holdsA A x33.id x33.pc) x33.pc))) (wt0 rfl) rfl rfl (x_extract rfl rfl rfl) ?_)
                        refine l_of (s_val (v := .int .i64 ((countH (holdsA A x33.id x33.pc) x33.pc))) (wt0 rfl) rfl rfl (x_extract rfl rfl rfl) ?_)
                        refine l_of (s_val (v := .int .i64 ((countE (holdsA A x33.id x33.pc) x33.pc))) (wt0 rfl) rfl rfl (x_extract rfl rfl rfl) ?_)
                        refine l_of (s_val (v := .int .i64 ((countT (holdsA A x33.id x33.pc) x33.pc))) (wt0 rfl) rfl rfl (x_assign rfl rfl) ?_)
                        refine l_of (s_val (v := .int .i64 ((countH (holdsA A x33.id x33.pc) x33.pc))) (wt0 rfl) rfl rfl (x_assign rfl rfl) ?_)
                        refine l_of (s_val (v := .int .i64 ((countE (holdsA A x33.id x33.pc) x33.pc))) (wt0 rfl) rfl rfl (x_assign rfl rfl) ?_)
                        refine g_nil ?_
                        refine g_then ?_
                        refine g_weak [(1, .int .i64 pc), (7, .pointer (some ⟨Y10.g, 0, none⟩)), (9, .pointer (some ⟨Y24.h, 0, none⟩)), (13, .bool (decide (((holdsE A x33.id x33.pc) : Int) = (holdsE A x33.id x33.pc)))), (26, .slice pt188 ((toldV (holdsA A x33.id x33.pc) x33.id).length) ct189), (27, .int .i64 ((findE (holdsA A x33.id x33.pc) x33.id))), (28, .slice pt193 ((toldV (holdsA A x33.id x33.pc) x33.id).length) ct194), (29, .int .i64 ((findE (holdsA A x33.id x33.pc) x33.id))), (30, .int .i64 ((countT (holdsA A x33.id x33.pc) x33.pc))), (31, .int .i64 ((countH (holdsA A x33.id x33.pc) x33.pc))), (32, .int .i64 ((countE (holdsA A x33.id x33.pc) x33.pc))), (33, .int .i64 ((countT (holdsA A x33.id x33.pc) x33.pc))), (34, .int .i64 ((countH (holdsA A x33.id x33.pc) x33.pc))), (35, .int .i64 ((countE (holdsA A x33.id x33.pc) x33.pc))), (78, .slice p n c), (79, .int .i64 ((n : Int))), (80, .int .i64 ((j9 : Int)))] ⟨rfl, rfl, rfl, rfl, rfl, rfl, rfl, rfl, rfl, rfl, rfl, rfl, rfl, rfl, rfl, rfl, rfl, trivial⟩ ?_
                        refine g_seq ?_
                        refine g_region ?_
                        refine l_of (s_val (v := .bool (decide (((holdsE A x33.id x33.pc) : Int) = (holdsE A x33.id x33.pc)))) (wt0 rfl) rfl rfl (x_move rfl rfl) ?_)
                        refine l_of (s_val (v := .bool (!decide (((holdsE A x33.id x33.pc) : Int) = (holdsE A x33.id x33.pc)))) (wt0 rfl) rfl rfl (x_not (b := decide (((holdsE A x33.id x33.pc) : Int) = (holdsE A x33.id x33.pc))) rfl rfl) ?_)
                        refine l_of (s_val (v := .bool (!decide (((holdsE A x33.id x33.pc) : Int) = (holdsE A x33.id x33.pc)))) (wt0 rfl) rfl rfl (x_move rfl rfl) ?_)
                        refine l_of (s_val (v := .slice pt188 ((toldV (holdsA A x33.id x33.pc) x33.id).length) ct189) (wt1 rfl rfl rfl rfl (nf rfl)) rfl rfl (x_move rfl rfl) ?_)
                        refine l_of (s_val (v := .slice pt193 ((toldV (holdsA A x33.id x33.pc) x33.id).length) ct194) (wt1 rfl rfl rfl rfl (nf rfl)) rfl rfl (x_move rfl rfl) ?_)
                        refine l_of (s_call (wt1 rfl rfl rfl rfl (nf rfl)) (x_call' rfl rfl cl20) (same_i (toldV (holdsA A x33.id x33.pc) x33.id) (by omega) pt188 ((toldV (holdsA A x33.id x33.pc) x33.id).length) ct189 pt193 ((toldV (holdsA A x33.id x33.pc) x33.id).length) ct194 _ (H202.rwReads (k := 2) rfl) ((hT196 _ (H202.takes [0] (by decide))))) ?_)
                        rintro _ wq203 ⟨rfl, H204⟩
                        replace H204 : S wq203 [Y183.I, Y178.I, Rw 3 1 pt188 ((toldV (holdsA A x33.id x33.pc) x33.id).length) ct189 (fl intL (toldV (holdsA A x33.id x33.pc) x33.id)), Ob g34 (.cells #[.int .i64 (x33.kind), .int .i64 (x33.id), .int .i64 (x33.pc)] 32 (0, 0)), Old w no] := H202.absorb (new := []) H204
                        refine b_ret rfl rfl ?_
                        refine l_of (s_val (v := .bool false) (wt1 rfl rfl rfl rfl (nf rfl)) rfl rfl (x_not (b := true) rfl rfl) ?_)
                        refine l_of (s_val (v := .bool false) (wt0 rfl) rfl rfl (x_pick_f rfl rfl (nf rfl) rfl) ?_)
                        refine l_of (s_val (v := .bool false) (wt0 rfl) rfl rfl (x_move rfl rfl) ?_)
                        refine l_of (s_val (v := .int .i64 ((findE (holdsA A x33.id x33.pc) x33.id))) (wt1 rfl rfl rfl rfl rfl) rfl rfl (x_move rfl rfl) ?_)
                        refine l_of (s_val (v := .int .i64 ((findE (holdsA A x33.id x33.pc) x33.id))) (wt1 rfl rfl rfl rfl rfl) rfl rfl (x_move rfl rfl) ?_)
                        refine l_of (s_val (v := .bool (!decide (((findE (holdsA A x33.id x33.pc) x33.id) : Int) = (findE (holdsA A x33.id x33.pc) x33.id)))) (wt1 rfl rfl rfl rfl rfl) rfl rfl (x_bin rfl rfl rfl b_neq) ?_)
                        refine l_of (s_val (v := .bool (!decide (((findE (holdsA A x33.id x33.pc) x33.id) : Int) = (findE (holdsA A x33.id x33.pc) x33.id)))) (wt0 rfl) rfl rfl (x_pick_f rfl rfl rfl rfl) ?_)
                        refine l_of (s_val (v := .bool (!decide (((findE (holdsA A x33.id x33.pc) x33.id) : Int) = (findE (holdsA A x33.id x33.pc) x33.id)))) (wt0 rfl) rfl rfl (x_move rfl rfl) ?_)
                        refine l_of (s_val (v := .int .i64 ((countT (holdsA A x33.id x33.pc) x33.pc))) (wt1 rfl rfl rfl rfl (nf rfl)) rfl rfl (x_move rfl rfl) ?_)
                        refine l_of (s_val (v := .int .i64 ((countT (holdsA A x33.id x33.pc) x33.pc))) (wt1 rfl rfl rfl rfl (nf rfl)) rfl rfl (x_move rfl rfl) ?_)
                        refine l_of (s_val (v := .bool (!decide (((countT (holdsA A x33.id x33.pc) x33.pc) : Int) = (countT (holdsA A x33.id x33.pc) x33.pc)))) (wt1 rfl rfl rfl rfl (nf rfl)) rfl rfl (x_bin rfl rfl rfl b_neq) ?_)
                        refine l_of (s_val (v := .bool (!decide (((countT (holdsA A x33.id x33.pc) x33.pc) : Int) = (countT (holdsA A x33.id x33.pc) x33.pc)))) (wt0 rfl) rfl rfl (x_pick_f rfl rfl (nf rfl) rfl) ?_)
                        refine l_of (s_val (v := .bool (!decide (((countT (holdsA A x33.id x33.pc) x33.pc) : Int) = (countT (holdsA A x33.id x33.pc) x33.pc)))) (wt0 rfl) rfl rfl (x_move rfl rfl) ?_)
                        refine l_of (s_val (v := .int .i64 ((countH (holdsA A x33.id x33.pc) x33.pc))) (wt1 rfl rfl rfl rfl (nf rfl)) rfl rfl (x_move rfl rfl) ?_)
                        refine l_of (s_val (v := .int .i64 ((countH (holdsA A x33.id x33.pc) x33.pc))) (wt1 rfl rfl rfl rfl (nf rfl)) rfl rfl (x_move rfl rfl) ?_)
                        refine l_of (s_val (v := .bool (!decide (((countH (holdsA A x33.id x33.pc) x33.pc) : Int) = (countH (holdsA A x33.id x33.pc) x33.pc)))) (wt1 rfl rfl rfl rfl (nf rfl)) rfl rfl (x_bin rfl rfl rfl b_neq) ?_)
                        refine l_of (s_val (v := .bool (!decide (((countH (holdsA A x33.id x33.pc) x33.pc) : Int) = (countH (holdsA A x33.id x33.pc) x33.pc)))) (wt0 rfl) rfl rfl (x_pick_f rfl rfl (nf rfl) rfl) ?_)
                        refine l_of (s_val (v := .bool (!decide (((countH (holdsA A x33.id x33.pc) x33.pc) : Int) = (countH (holdsA A x33.id x33.pc) x33.pc)))) (wt0 rfl) rfl rfl (x_move rfl rfl) ?_)
                        refine l_of (s_val (v := .int .i64 ((countE (holdsA A x33.id x33.pc) x33.pc))) (wt1 rfl rfl rfl rfl (nf rfl)) rfl rfl (x_move rfl rfl) ?_)
                        refine l_of (s_val (v := .int .i64 ((countE (holdsA A x33.id x33.pc) x33.pc))) (wt1 rfl rfl rfl rfl (nf rfl)) rfl rfl (x_move rfl rfl) ?_)
                        refine l_of (s_val (v := .bool (!decide (((countE (holdsA A x33.id x33.pc) x33.pc) : Int) = (countE (holdsA A x33.id x33.pc) x33.pc)))) (wt1 rfl rfl rfl rfl (nf rfl)) rfl rfl (x_bin rfl rfl rfl b_neq) ?_)
                        refine l_of (s_val (v := .bool (!decide (((countE (holdsA A x33.id x33.pc) x33.pc) : Int) = (countE (holdsA A x33.id x33.pc) x33.pc)))) (wt0 rfl) rfl rfl (x_pick_f rfl rfl (nf rfl) rfl) ?_)
                        refine l_of (s_val (v := .bool (!decide (((countE (holdsA A x33.id x33.pc) x33.pc) : Int) = (countE (holdsA A x33.id x33.pc) x33.pc)))) (wt0 rfl) rfl rfl (x_move rfl rfl) ?_)
                        refine l_of (s_val (v := .pointer (some ⟨Y10.g, 0, none⟩)) (wt1 rfl rfl rfl rfl (nf rfl)) rfl rfl (x_move rfl rfl) ?_)
                        refine l_of (s_call (wt1 rfl rfl rfl rfl (nf rfl)) (x_call' rfl rfl cl21) (whole_gx hPJ2 (by omega) hYg179 hYA180 _ (H204.takes [1] (by decide))) ?_)
                        rintro _ wq205 ⟨rfl, H206⟩
                        replace H206 : S wq205 [Y178.I, Y183.I, Rw 3 1 pt188 ((toldV (holdsA A x33.id x33.pc) x33.id).length) ct189 (fl intL (toldV (holdsA A x33.id x33.pc) x33.id)), Ob g34 (.cells #[.int .i64 (x33.kind), .int .i64 (x33.id), .int .i64 (x33.pc)] 32 (0, 0)), Old w no] := H204.absorbI (new := [Y178.I]) [1] H206
                        refine b_ret rfl rfl ?_
                        refine l_of (s_val (v := .pointer (some ⟨Y24.h, 0, none⟩)) (wt1 rfl rfl rfl rfl (nf rfl)) rfl rfl (x_move rfl rfl) ?_)
                        refine l_of (s_call (wt1 rfl rfl rfl rfl (nf rfl)) (x_call' rfl rfl cl22) (whole_gr hPJ2 (by omega) hYg184 hYA185 _ (H206.takes [1] (by decide))) ?_)
                        rintro _ wq207 ⟨rfl, H208⟩
                        replace H208 : S wq207 [Y183.I, Y178.I, Rw 3 1 pt188 ((toldV (holdsA A x33.id x33.pc) x33.id).length) ct189 (fl intL (toldV (holdsA A x33.id x33.pc) x33.id)), Ob g34 (.cells #[.int .i64 (x33.kind), .int .i64 (x33.id), .int .i64 (x33.pc)] 32 (0, 0)), Old w no] := H206.absorbI (new := [Y183.I]) [1] H208
                        refine b_ret rfl rfl ?_
                        refine l_of (s_val (v := .bool (!(((wholeB (holdsA A x33.id x33.pc))) == ((wholeB (holdsA A x33.id x33.pc)))))) (wt1 rfl rfl rfl rfl (nf rfl)) rfl rfl (x_bin rfl rfl rfl (b_neN Tryd.underlying4 rfl)) ?_)
                        refine l_of (s_val (v := .bool (!(((wholeB (holdsA A x33.id x33.pc))) == ((wholeB (holdsA A x33.id x33.pc)))))) (wt0 rfl) rfl rfl (x_pick_f rfl rfl (nf rfl) rfl) ?_)
                        refine g_nil ?_
                        refine g_then ?_
                        refine g_weak [(1, .int .i64 pc), (7, .pointer (some ⟨Y10.g, 0, none⟩)), (9, .pointer (some ⟨Y24.h, 0, none⟩)), (78, .slice p n c), (79, .int .i64 ((n : Int))), (80, .int .i64 ((j9 : Int))), (266, .bool (!(((wholeB (holdsA A x33.id x33.pc))) == ((wholeB (holdsA A x33.id x33.pc))))))] ⟨rfl, rfl, rfl, rfl, rfl, rfl, rfl, trivial⟩ ?_
                        refine g_cond_f rfl (neg_of (beq_self_eq_true ((wholeB (holdsA A x33.id x33.pc))))) ?_
                        refine g_skip ?_
                        refine g_in ?_
                        refine g_then ?_
                        refine g_region ?_
                        refine l_of (s_val (v := .int .i64 (((j9 + 1 : Nat) : Int))) (wt0 rfl) rfl rfl (x_bin rfl rfl rfl (b_add (by rw [w64 (by omega)]; omega))) ?_)
                        refine l_of (s_val (v := .int .i64 (((j9 + 1 : Nat) : Int))) (wt0 rfl) rfl rfl (x_move rfl rfl) ?_)
                        refine g_nil ?_
                        refine g_then ?_
                        refine g_round (i := (j9, X, Z, A)) ((j9 + 1), Y178, Y183, (holdsA A x33.id x33.pc)) ?_ ?_ ?_
                        · exact ⟨rfl, rfl, rfl, rfl, rfl, rfl, trivial⟩
                        · exact ⟨by omega, (hPJ.holds (id := x33.id) (k := x33.pc)), hYg179, hYA180, hYg184, hYA185, ((holds_n).trans hAn), (H208.takes [1, 0, 4] (by decide))⟩
                        · (try dsimp only); omega
                      · skip
                        refine g_cond_f rfl (decide_eq_false hb175) ?_
                        refine g_seq ?_
                        refine g_region ?_
                        refine l_of (s_val (v := .bool false) (wt0 rfl) rfl rfl (x_assign rfl rfl) ?_)
                        refine g_nil ?_
                        refine g_then ?_
                        refine g_seq ?_
                        refine g_region ?_
                        refine l_of (s_val (v := .pointer (some ⟨Y24.h, 0, none⟩)) (wt0 rfl) rfl rfl (x_move rfl rfl) ?_)
                        refine l_of (s_val (v := .pointer (some ⟨g34, 1, none⟩)) (wt0 rfl) rfl rfl (x_fieldAddr rfl rfl fo32_1 rfl) ?_)
                        refine l_of (s_val (v := .int .i64 (x33.id)) (wt0 rfl) rfl rfl (x_load1 H38 0 rfl rfl Tryd.underlying3 rfl rfl rfl) ?_)
                        refine l_of (s_call (wt0 rfl) (x_call' rfl rfl cl13) (told_gr (id := x33.id) hPJ (by omega) hZg hZA _ (H38.takes [2] (by decide))) ?_)
                        rintro _ wq213 ⟨pt209, ct210, rfl, hT212, H214⟩
                        replace H214 : S wq213 [Z.I, Ob g34 (.cells #[.int .i64 (x33.kind), .int .i64 (x33.id), .int .i64 (x33.pc)] 32 (0, 0)), X.I, Old w no] := H38.absorbI (new := [Z.I]) [2] H214
                        have hl211 := toldV_len hPJ x33.id
                        refine b_ret rfl rfl ?_
                        refine l_of (s_val (v := .tuple #[.slice pt209 ((toldV A x33.id).length) ct210, .int .i64 ((findE A x33.id))]) (wt0 rfl) rfl rfl (x_move rfl rfl) ?_)
                        refine l_of (s_val (v := .slice pt209 ((toldV A x33.id).length) ct210) (wt0 rfl) rfl rfl (x_extract rfl rfl rfl) ?_)
                        refine l_of (s_val (v := .int .i64 ((findE A x33.id))) (wt0 rfl) rfl rfl (x_extract rfl rfl rfl) ?_)
                        refine l_of (s_val (v := .slice pt209 ((toldV A x33.id).length) ct210) (wt0 rfl) rfl rfl (x_assign rfl rfl) ?_)
                        refine l_of (s_val (v := .int .i64 ((findE A x33.id))) (wt0 rfl) rfl rfl (x_assign rfl rfl) ?_)
                        refine g_nil ?_
                        refine g_then ?_
                        refine g_seq ?_
                        refine g_seq ?_
                        refine g_region ?_
                        refine l_of (s_val (v := .int .i64 pc) (wt0 rfl) rfl rfl (x_move rfl rfl) ?_)
                        refine l_of (s_val (v := .int .i64 0) (wt0 rfl) rfl rfl (x_move rfl rfl) ?_)
                        refine g_nil ?_
                        refine g_then ?_
                        refine g_block ?_
                        refine g_loop (ι := Nat × Bool) (fun (m, fr) => [(1, .int .i64 pc), (7, .pointer (some ⟨Y10.g, 0, none⟩)), (9, .pointer (some ⟨Y24.h, 0, none⟩)), (12, .pointer (some ⟨g34, 0, none⟩)), (14, .bool fr), (15, .slice pt209 ((toldV A x33.id).length) ct210), (78, .slice p n c), (79, .int .i64 ((n : Int))), (80, .int .i64 ((j9 : Int))), (93, .int .i64 pc), (94, .int .i64 ((m : Int)))]) (fun (m, fr) wx => (m ≤ pc.toNat) ∧ (fr = true → Fresh A x33.id m) ∧ S wx [Z.I, Ob g34 (.cells #[.int .i64 (x33.kind), .int .i64 (x33.id), .int .i64 (x33.pc)] 32 (0, 0)), X.I, Old w no]) (fun (m, fr) => pc.toNat - m) (0, false) ⟨rfl, rfl, rfl, rfl, rfl, rfl, rfl, rfl, rfl, rfl, rfl, trivial⟩ ⟨Nat.zero_le _, (fun h => by cases h), (H214.takes [0, 1, 2, 3] (by decide))⟩ ?_
                        rintro ⟨m, fr⟩ wq215 ⟨hm, hfr, H216⟩
                        replace H216 : S wq215 [Z.I, Ob g34 (.cells #[.int .i64 (x33.kind), .int .i64 (x33.id), .int .i64 (x33.pc)] 32 (0, 0)), X.I, Old w no] := H216
                        refine g_weak [(1, .int .i64 pc), (7, .pointer (some ⟨Y10.g, 0, none⟩)), (9, .pointer (some ⟨Y24.h, 0, none⟩)), (12, .pointer (some ⟨g34, 0, none⟩)), (14, .bool fr), (15, .slice pt209 ((toldV A x33.id).length) ct210), (78, .slice p n c), (79, .int .i64 ((n : Int))), (80, .int .i64 ((j9 : Int))), (93, .int .i64 pc), (94, .int .i64 ((m : Int)))] ⟨rfl, rfl, rfl, rfl, rfl, rfl, rfl, rfl, rfl, rfl, rfl, trivial⟩ ?_
                        refine g_seq ?_
                        refine g_region ?_
                        refine l_of (s_val (v := .bool (decide (((m : Int) : Int) < pc))) (wt0 rfl) rfl rfl (x_bin rfl rfl rfl b_lss) ?_)
                        refine g_nil ?_
                        refine g_then ?_
                        refine g_seq ?_
                        by_cases hb217 : ((m : Int) : Int) < pc
                        · skip
                          refine g_cond_t rfl (decide_eq_true hb217) ?_
                          refine g_skip ?_
                          refine g_then ?_
                          refine g_seq ?_
                          refine g_block ?_
                          refine g_seq ?_
                          refine g_region ?_
                          refine l_of (s_val (v := .int .i64 ((m : Int))) (wt0 rfl) rfl rfl (x_move rfl rfl) ?_)
                          refine l_of (s_val (v := .int .i64 ((m : Int))) (wt0 rfl) rfl rfl (x_assign rfl rfl) ?_)
                          refine g_nil ?_
                          refine g_then ?_
                          refine g_seq ?_
                          refine g_region ?_
                          refine l_of (s_val (v := .pointer (some ⟨Y24.h, 0, none⟩)) (wt0 rfl) rfl rfl (x_move rfl rfl) ?_)
                          refine l_of (s_val (v := .int .i64 ((m : Int))) (wt0 rfl) rfl rfl (x_move rfl rfl) ?_)
                          refine l_of (s_call (wt0 rfl) (x_call' rfl rfl cl14) (count_gr (k := (m : Int)) hPJ (by omega) hZg hZA _ (H216.takes [0] (by decide))) ?_)
                          rintro _ wq218 ⟨rfl, H219⟩
                          replace H219 : S wq218 [Z.I, Ob g34 (.cells #[.int .i64 (x33.kind), .int .i64 (x33.id), .int .i64 (x33.pc)] 32 (0, 0)), X.I, Old w no] := H216.absorbI (new := [Z.I]) [0] H219
                          refine b_ret rfl rfl ?_
                          refine l_of (s_val (v := .tuple #[.int .i64 ((countT A (m : Int))), .int .i64 ((countH A (m : Int))), .int .i64 ((countE A (m : Int)))]) (wt0 rfl) rfl rfl (x_move rfl rfl) ?_)
                          refine l_of (s_val (v := .int .i64 ((countT A (m : Int)))) (wt0 rfl) rfl rfl (x_extract rfl rfl rfl) ?_)
                          refine l_of (s_val (v := .int .i64 ((countH A (m : Int)))) (wt0 rfl) rfl rfl (x_extract rfl rfl rfl) ?_)
                          refine l_of (s_val (v := .int .i64 ((countE A (m : Int)))) (wt0 rfl) rfl rfl (x_extract rfl rfl rfl) ?_)
                          refine l_of (s_val (v := .int .i64 ((countT A (m : Int)))) (wt0 rfl) rfl rfl (x_assign rfl rfl) ?_)
                          refine l_of (s_val (v := .int .i64 ((countH A (m : Int)))) (wt0 rfl) rfl rfl (x_assign rfl rfl) ?_)
                          refine l_of (s_val (v := .int .i64 ((countE A (m : Int)))) (wt0 rfl) rfl rfl (x_assign rfl rfl) ?_)
                          refine g_nil ?_
                          refine g_then ?_
                          refine g_region ?_
                          refine l_of (s_val (v := .bool fr) (wt0 rfl) rfl rfl (x_move rfl rfl) ?_)
                          refine l_of (s_val (v := .bool fr) (wt0 rfl) rfl rfl (x_move rfl rfl) ?_)
                          rcases Bool.eq_false_or_eq_true (fr) with hb220 | hb220
                          · skip
                            refine l_of (s_not (wn1 rfl rfl rfl rfl hb220) rfl rfl ?_)
                            refine l_of (s_not (wn1 rfl rfl rfl rfl hb220) rfl rfl ?_)
                            refine l_of (s_not (wn1 rfl rfl rfl rfl hb220) rfl rfl ?_)
                            refine l_of (s_not (wn2 rfl rfl rfl rfl) rfl rfl ?_)
                            refine l_of (s_not (wn2 rfl rfl rfl rfl) rfl rfl ?_)
                            refine l_of (s_not (wn1 rfl rfl rfl rfl hb220) rfl rfl ?_)
                            refine l_of (s_not (wn1 rfl rfl rfl rfl hb220) rfl rfl ?_)
                            refine l_of (s_not (wn2 rfl rfl rfl rfl) rfl rfl ?_)
                            refine l_of (s_not (wn2 rfl rfl rfl rfl) rfl rfl ?_)
                            refine l_of (s_not (wn2 rfl rfl rfl rfl) rfl rfl ?_)
                            refine l_of (s_not (wn2 rfl rfl rfl rfl) rfl rfl ?_)
                            refine l_of (s_not (wn1 rfl rfl rfl rfl hb220) rfl rfl ?_)
                            refine l_of (s_val (v := .bool true) (wt0 rfl) rfl rfl (x_pick_t rfl rfl hb220 rfl) ?_)
                            refine l_of (s_val (v := .bool true) (wt0 rfl) rfl rfl (x_assign rfl rfl) ?_)
                            refine g_nil ?_
                            refine g_in ?_
                            refine g_then ?_
                            refine g_weak [(1, .int .i64 pc), (7, .pointer (some ⟨Y10.g, 0, none⟩)), (9, .pointer (some ⟨Y24.h, 0, none⟩)), (12, .pointer (some ⟨g34, 0, none⟩)), (14, .bool true), (15, .slice pt209 ((toldV A x33.id).length) ct210), (78, .slice p n c), (79, .int .i64 ((n : Int))), (80, .int .i64 ((j9 : Int))), (93, .int .i64 pc), (94, .int .i64 ((m : Int)))] ⟨rfl, rfl, rfl, rfl, rfl, rfl, rfl, rfl, rfl, rfl, rfl, trivial⟩ ?_
                            refine g_region ?_
                            refine l_of (s_val (v := .int .i64 (((m + 1 : Nat) : Int))) (wt0 rfl) rfl rfl (x_bin rfl rfl rfl (b_add (by rw [w64 (by omega)]; omega))) ?_)
                            refine l_of (s_val (v := .int .i64 (((m + 1 : Nat) : Int))) (wt0 rfl) rfl rfl (x_move rfl rfl) ?_)
                            refine g_nil ?_
                            refine g_then ?_
                            refine g_round (i := (m, fr)) ((m + 1), true) ?_ ?_ ?_
                            · exact ⟨rfl, rfl, rfl, rfl, rfl, rfl, rfl, rfl, rfl, rfl, rfl, trivial⟩
                            · exact ⟨(by omega), (fr_nxt hfr (fun h9 => by first | (left; simp_all; done) | (right; simp_all; done) | (simp_all; done))), (H219.takes [0, 1, 2, 3] (by decide))⟩
                            · (try dsimp only); omega
                          · skip
                            refine l_of (s_val (v := .int .i64 ((countT A (m : Int)))) (wt1 rfl rfl rfl rfl hb220) rfl rfl (x_move rfl rfl) ?_)
                            refine l_of (s_val (v := .bool (decide (((countT A (m : Int)) : Int) = 0))) (wt1 rfl rfl rfl rfl hb220) rfl rfl (x_bin rfl rfl rfl b_eql) ?_)
                            refine l_of (s_val (v := .bool (decide (((countT A (m : Int)) : Int) = 0))) (wt1 rfl rfl rfl rfl hb220) rfl rfl (x_move rfl rfl) ?_)
                            by_cases hb221 : ((countT A (m : Int)) : Int) = 0
                            · skip
                              refine l_of (s_val (v := .int .i64 ((countH A (m : Int)))) (wt1 rfl rfl rfl rfl (decide_eq_true hb221)) rfl rfl (x_move rfl rfl) ?_)
                              refine l_of (s_val (v := .bool (decide (((countH A (m : Int)) : Int) = 0))) (wt1 rfl rfl rfl rfl (decide_eq_true hb221)) rfl rfl (x_bin rfl rfl rfl b_eql) ?_)
                              refine l_of (s_val (v := .bool (decide (((countH A (m : Int)) : Int) = 0))) (wt1 rfl rfl rfl rfl hb220) rfl rfl (x_pick_t rfl rfl (decide_eq_true hb221) rfl) ?_)
                              refine l_of (s_val (v := .bool (decide (((countH A (m : Int)) : Int) = 0))) (wt1 rfl rfl rfl rfl hb220) rfl rfl (x_move rfl rfl) ?_)
                              by_cases hb222 : ((countH A (m : Int)) : Int) = 0
                              · skip
                                refine l_of (s_val (v := .slice pt209 ((toldV A x33.id).length) ct210) (wt1 rfl rfl rfl rfl (decide_eq_true hb222)) rfl rfl (x_move rfl rfl) ?_)
                                refine l_of (s_val (v := .int .i64 ((m : Int))) (wt1 rfl rfl rfl rfl (decide_eq_true hb222)) rfl rfl (x_move rfl rfl) ?_)
                                refine l_of (s_call (wt1 rfl rfl rfl rfl (decide_eq_true hb222)) (x_call' rfl rfl cl15) (in_l (toldV A x33.id) pt209 ((toldV A x33.id).length) ct210 (m : Int) (by omega) _ ((hT212 _ (H219.takes [0] (by decide))))) ?_)
                                rintro _ wq223 ⟨rfl, H224⟩
                                replace H224 : S wq223 [Z.I, Ob g34 (.cells #[.int .i64 (x33.kind), .int .i64 (x33.id), .int .i64 (x33.pc)] 32 (0, 0)), X.I, Old w no] := H219.absorb (new := []) H224
                                refine b_ret rfl rfl ?_
                                refine l_of (s_val (v := .bool (!((decide ((m : Int) ∈ (toldV A x33.id)))))) (wt1 rfl rfl rfl rfl (decide_eq_true hb222)) rfl rfl (x_not (b := (decide ((m : Int) ∈ (toldV A x33.id)))) rfl rfl) ?_)
                                refine l_of (s_val (v := .bool (!((decide ((m : Int) ∈ (toldV A x33.id)))))) (wt1 rfl rfl rfl rfl hb220) rfl rfl (x_pick_t rfl rfl (decide_eq_true hb222) rfl) ?_)
                                refine l_of (s_val (v := .bool (!((decide ((m : Int) ∈ (toldV A x33.id)))))) (wt0 rfl) rfl rfl (x_pick_f rfl rfl hb220 rfl) ?_)
                                refine l_of (s_val (v := .bool (!((decide ((m : Int) ∈ (toldV A x33.id)))))) (wt0 rfl) rfl rfl (x_assign rfl rfl) ?_)
                                refine g_nil ?_
                                refine g_in ?_
                                refine g_then ?_
                                refine g_weak [(1, .int .i64 pc), (7, .pointer (some ⟨Y10.g, 0, none⟩)), (9, .pointer (some ⟨Y24.h, 0, none⟩)), (12, .pointer (some ⟨g34, 0, none⟩)), (14, .bool (!((decide ((m : Int) ∈ (toldV A x33.id)))))), (15, .slice pt209 ((toldV A x33.id).length) ct210), (78, .slice p n c), (79, .int .i64 ((n : Int))), (80, .int .i64 ((j9 : Int))), (93, .int .i64 pc), (94, .int .i64 ((m : Int)))] ⟨rfl, rfl, rfl, rfl, rfl, rfl, rfl, rfl, rfl, rfl, rfl, trivial⟩ ?_
                                refine g_region ?_
                                refine l_of (s_val (v := .int .i64 (((m + 1 : Nat) : Int))) (wt0 rfl) rfl rfl (x_bin rfl rfl rfl (b_add (by rw [w64 (by omega)]; omega))) ?_)
                                refine l_of (s_val (v := .int .i64 (((m + 1 : Nat) : Int))) (wt0 rfl) rfl rfl (x_move rfl rfl) ?_)
                                refine g_nil ?_
                                refine g_then ?_
                                refine g_round (i := (m, fr)) ((m + 1), !((decide ((m : Int) ∈ (toldV A x33.id))))) ?_ ?_ ?_
                                · exact ⟨rfl, rfl, rfl, rfl, rfl, rfl, rfl, rfl, rfl, rfl, rfl, trivial⟩
                                · exact ⟨(by omega), (fr_nxt hfr (fun h9 => by first | (left; simp_all; done) | (right; simp_all; done) | (simp_all; done))), (H224.takes [0, 1, 2, 3] (by decide))⟩
                                · (try dsimp only); omega
                              · skip
                                refine l_of (s_not (wn1 rfl rfl rfl rfl (decide_eq_false hb222)) rfl rfl ?_)
                                refine l_of (s_not (wn1 rfl rfl rfl rfl (decide_eq_false hb222)) rfl rfl ?_)
                                refine l_of (s_not (wn1 rfl rfl rfl rfl (decide_eq_false hb222)) rfl rfl ?_)
                                refine l_of (s_not (wn1 rfl rfl rfl rfl (decide_eq_false hb222)) rfl rfl ?_)
                                refine l_of (s_val (v := .bool false) (wt1 rfl rfl rfl rfl hb220) rfl rfl (x_pick_f rfl rfl (decide_eq_false hb222) rfl) ?_)
                                refine l_of (s_val (v := .bool false) (wt0 rfl) rfl rfl (x_pick_f rfl rfl hb220 rfl) ?_)
                                refine l_of (s_val (v := .bool false) (wt0 rfl) rfl rfl (x_assign rfl rfl) ?_)
                                refine g_nil ?_
                                refine g_in ?_
                                refine g_then ?_
                                refine g_weak [(1, .int .i64 pc), (7, .pointer (some ⟨Y10.g, 0, none⟩)), (9, .pointer (some ⟨Y24.h, 0, none⟩)), (12, .pointer (some ⟨g34, 0, none⟩)), (14, .bool false), (15, .slice pt209 ((toldV A x33.id).length) ct210), (78, .slice p n c), (79, .int .i64 ((n : Int))), (80, .int .i64 ((j9 : Int))), (93, .int .i64 pc), (94, .int .i64 ((m : Int)))] ⟨rfl, rfl, rfl, rfl, rfl, rfl, rfl, rfl, rfl, rfl, rfl, trivial⟩ ?_
                                refine g_region ?_
                                refine l_of (s_val (v := .int .i64 (((m + 1 : Nat) : Int))) (wt0 rfl) rfl rfl (x_bin rfl rfl rfl (b_add (by rw [w64 (by omega)]; omega))) ?_)
                                refine l_of (s_val (v := .int .i64 (((m + 1 : Nat) : Int))) (wt0 rfl) rfl rfl (x_move rfl rfl) ?_)
                                refine g_nil ?_
                                refine g_then ?_
                                refine g_round (i := (m, fr)) ((m + 1), false) ?_ ?_ ?_
                                · exact ⟨rfl, rfl, rfl, rfl, rfl, rfl, rfl, rfl, rfl, rfl, rfl, trivial⟩
                                · exact ⟨(by omega), (fr_nxt hfr (fun h9 => by first | (left; simp_all; done) | (right; simp_all; done) | (simp_all; done))), (H219.takes [0, 1, 2, 3] (by decide))⟩
                                · (try dsimp only); omega
                            · skip
                              refine l_of (s_not (wn1 rfl rfl rfl rfl (decide_eq_false hb221)) rfl rfl ?_)
                              refine l_of (s_not (wn1 rfl rfl rfl rfl (decide_eq_false hb221)) rfl rfl ?_)
                              refine l_of (s_val (v := .bool false) (wt1 rfl rfl rfl rfl hb220) rfl rfl (x_pick_f rfl rfl (decide_eq_false hb221) rfl) ?_)
                              refine l_of (s_val (v := .bool false) (wt1 rfl rfl rfl rfl hb220) rfl rfl (x_move rfl rfl) ?_)
                              refine l_of (s_not (wn1 rfl rfl rfl rfl rfl) rfl rfl ?_)
                              refine l_of (s_not (wn1 rfl rfl rfl rfl rfl) rfl rfl ?_)
                              refine l_of (s_not (wn1 rfl rfl rfl rfl rfl) rfl rfl ?_)
                              refine l_of (s_not (wn1 rfl rfl rfl rfl rfl) rfl rfl ?_)
                              refine l_of (s_val (v := .bool false) (wt1 rfl rfl rfl rfl hb220) rfl rfl (x_pick_f rfl rfl rfl rfl) ?_)
                              refine l_of (s_val (v := .bool false) (wt0 rfl) rfl rfl (x_pick_f rfl rfl hb220 rfl) ?_)
                              refine l_of (s_val (v := .bool false) (wt0 rfl) rfl rfl (x_assign rfl rfl) ?_)
                              refine g_nil ?_
                              refine g_in ?_
                              refine g_then ?_
                              refine g_weak [(1, .int .i64 pc), (7, .pointer (some ⟨Y10.g, 0, none⟩)), (9, .pointer (some ⟨Y24.h, 0, none⟩)), (12, .pointer (some ⟨g34, 0, none⟩)), (14, .bool false), (15, .slice pt209 ((toldV A x33.id).length) ct210), (78, .slice p n c), (79, .int .i64 ((n : Int))), (80, .int .i64 ((j9 : Int))), (93, .int .i64 pc), (94, .int .i64 ((m : Int)))] ⟨rfl, rfl, rfl, rfl, rfl, rfl, rfl, rfl, rfl, rfl, rfl, trivial⟩ ?_
                              refine g_region ?_
                              refine l_of (s_val (v := .int .i64 (((m + 1 : Nat) : Int))) (wt0 rfl) rfl rfl (x_bin rfl rfl rfl (b_add (by rw [w64 (by omega)]; omega))) ?_)
                              refine l_of (s_val (v := .int .i64 (((m + 1 : Nat) : Int))) (wt0 rfl) rfl rfl (x_move rfl rfl) ?_)
                              refine g_nil ?_
                              refine g_then ?_
                              refine g_round (i := (m, fr)) ((m + 1), false) ?_ ?_ ?_
                              · exact ⟨rfl, rfl, rfl, rfl, rfl, rfl, rfl, rfl, rfl, rfl, rfl, trivial⟩
                              · exact ⟨(by omega), (fr_nxt hfr (fun h9 => by first | (left; simp_all; done) | (right; simp_all; done) | (simp_all; done))), (H219.takes [0, 1, 2, 3] (by decide))⟩
                              · (try dsimp only); omega
                        · skip
                          refine g_cond_f rfl (decide_eq_false hb217) ?_
                          refine g_exit ?_
                          refine g_then_exit ?_
                          refine g_then_exit ?_
                          refine g_in_hit ?_
                          refine g_then ?_
                          refine g_seq ?_
                          refine g_region ?_
                          refine l_of (s_val (v := .pointer (some ⟨Y10.g, 0, none⟩)) (wt0 rfl) rfl rfl (x_move rfl rfl) ?_)
                          refine l_of (s_val (v := .pointer (some ⟨g34, 1, none⟩)) (wt0 rfl) rfl rfl (x_fieldAddr rfl rfl fo32_1 rfl) ?_)
                          refine l_of (s_val (v := .int .i64 (x33.id)) (wt0 rfl) rfl rfl (x_load1 H216 1 rfl rfl Tryd.underlying3 rfl rfl rfl) ?_)
                          refine l_of (s_call (wt0 rfl) (x_call' rfl rfl cl16) (next_gx (id := x33.id) hPJ (by omega) hXg hXA (hok _ (List.mem_of_getElem? hx33)).1 ht _ (H216.takes [2, 3] (by decide))) ?_)
                          rintro _ wq228 ⟨Y225, hYg226, hYA227, rfl, H229⟩
                          replace H229 : S wq228 [Y225.I, Old w no, Z.I, Ob g34 (.cells #[.int .i64 (x33.kind), .int .i64 (x33.id), .int .i64 (x33.pc)] 32 (0, 0))] := H216.absorbI (new := [Y225.I, Old w no]) [2, 3] H229
                          refine b_ret rfl rfl ?_
                          refine l_of (s_val (v := .tuple #[.int .i64 ((nextV A x33.id)), .int .i64 ((nextE A x33.id))]) (wt0 rfl) rfl rfl (x_move rfl rfl) ?_)
                          refine l_of (s_val (v := .int .i64 ((nextV A x33.id))) (wt0 rfl) rfl rfl (x_extract rfl rfl rfl) ?_)
                          refine l_of (s_val (v := .int .i64 ((nextE A x33.id))) (wt0 rfl) rfl rfl (x_extract rfl rfl rfl) ?_)
                          refine l_of (s_val (v := .int .i64 ((nextV A x33.id))) (wt0 rfl) rfl rfl (x_assign rfl rfl) ?_)
                          refine l_of (s_val (v := .int .i64 ((nextE A x33.id))) (wt0 rfl) rfl rfl (x_assign rfl rfl) ?_)
                          refine g_nil ?_
                          refine g_then ?_
                          refine g_seq ?_
                          refine g_region ?_
                          refine l_of (s_val (v := .int .i64 0) (wt0 rfl) rfl rfl (x_assign rfl rfl) ?_)
                          refine g_nil ?_
                          refine g_then ?_
                          refine g_seq ?_
                          refine g_seq ?_
                          refine g_region ?_
                          refine l_of (s_val (v := .int .i64 ((nextE A x33.id))) (wt0 rfl) rfl rfl (x_move rfl rfl) ?_)
                          refine l_of (s_val (v := .bool (decide (((nextE A x33.id) : Int) = 0))) (wt0 rfl) rfl rfl (x_bin rfl rfl rfl b_eql) ?_)
                          refine g_nil ?_
                          refine g_then ?_
                          refine g_weak [(1, .int .i64 pc), (7, .pointer (some ⟨Y10.g, 0, none⟩)), (9, .pointer (some ⟨Y24.h, 0, none⟩)), (12, .pointer (some ⟨g34, 0, none⟩)), (14, .bool fr), (21, .int .i64 ((nextV A x33.id))), (22, .int .i64 ((nextE A x33.id))), (23, .int .i64 0), (78, .slice p n c), (79, .int .i64 ((n : Int))), (80, .int .i64 ((j9 : Int))), (128, .bool (decide (((nextE A x33.id) : Int) = 0)))] ⟨rfl, rfl, rfl, rfl, rfl, rfl, rfl, rfl, rfl, rfl, rfl, rfl, trivial⟩ ?_
                          by_cases hb230 : ((nextE A x33.id) : Int) = 0
                          · skip
                            refine g_cond_t rfl (decide_eq_true hb230) ?_
                            refine g_region ?_
                            refine l_of (s_val (v := .pointer (some ⟨Y24.h, 0, none⟩)) (wt0 rfl) rfl rfl (x_move rfl rfl) ?_)
                            refine l_of (s_val (v := .int .i64 ((nextV A x33.id))) (wt0 rfl) rfl rfl (x_move rfl rfl) ?_)
                            refine l_of (s_call (wt0 rfl) (x_call' rfl rfl cl14) (count_gr (k := (nextV A x33.id)) hPJ (by omega) hZg hZA _ (H229.takes [2] (by decide))) ?_)
                            rintro _ wq231 ⟨rfl, H232⟩
                            replace H232 : S wq231 [Z.I, Y225.I, Old w no, Ob g34 (.cells #[.int .i64 (x33.kind), .int .i64 (x33.id), .int .i64 (x33.pc)] 32 (0, 0))] := H229.absorbI (new := [Z.I]) [2] H232
                            refine b_ret rfl rfl ?_
                            refine l_of (s_val (v := .tuple #[.int .i64 ((countT A (nextV A x33.id))), .int .i64 ((countH A (nextV A x33.id))), .int .i64 ((countE A (nextV A x33.id)))]) (wt0 rfl) rfl rfl (x_move rfl rfl) ?_)
                            refine l_of (s_val (v := .int .i64 ((countT A (nextV A x33.id)))) (wt0 rfl) rfl rfl (x_extract rfl rfl rfl) ?_)
                            refine l_of (s_val (v := .int .i64 ((countH A (nextV A x33.id)))) (wt0 rfl) rfl rfl (x_extract rfl rfl rfl) ?_)
                            refine l_of (s_val (v := .int .i64 ((countE A (nextV A x33.id)))) (wt0 rfl) rfl rfl (x_extract rfl rfl rfl) ?_)
                            refine l_of (s_val (v := .int .i64 ((countT A (nextV A x33.id)))) (wt0 rfl) rfl rfl (x_assign rfl rfl) ?_)
                            refine g_nil ?_
                            refine g_then ?_
                            refine g_seq ?_
                            refine g_region ?_
                            refine l_of (s_val (v := .pointer (some ⟨Y24.h, 0, none⟩)) (wt0 rfl) rfl rfl (x_move rfl rfl) ?_)
                            refine l_of (s_val (v := .pointer (some ⟨g34, 1, none⟩)) (wt0 rfl) rfl rfl (x_fieldAddr rfl rfl fo32_1 rfl) ?_)
                            refine l_of (s_val (v := .int .i64 (x33.id)) (wt0 rfl) rfl rfl (x_load1 H232 3 rfl rfl Tryd.underlying3 rfl rfl rfl) ?_)
                            refine l_of (s_call (wt0 rfl) (x_call' rfl rfl cl17) (next_gr (id := x33.id) hPJ (by omega) hZg hZA ht _ (H232.takes [0, 2] (by decide))) ?_)
                            rintro _ wq236 ⟨Y233, hYg234, hYA235, rfl, H237⟩
                            replace H237 : S wq236 [Y233.I, Old w no, Y225.I, Ob g34 (.cells #[.int .i64 (x33.kind), .int .i64 (x33.id), .int .i64 (x33.pc)] 32 (0, 0))] := H232.absorbI (new := [Y233.I, Old w no]) [0, 2] H237
                            refine b_ret rfl rfl ?_
                            refine l_of (s_val (v := .tuple #[.int .i64 ((nextV A x33.id)), .int .i64 ((nextE A x33.id))]) (wt0 rfl) rfl rfl (x_move rfl rfl) ?_)
                            refine l_of (s_val (v := .int .i64 ((nextV A x33.id))) (wt0 rfl) rfl rfl (x_extract rfl rfl rfl) ?_)
                            refine l_of (s_val (v := .int .i64 ((nextE A x33.id))) (wt0 rfl) rfl rfl (x_extract rfl rfl rfl) ?_)
                            refine l_of (s_val (v := .int .i64 ((nextV A x33.id))) (wt0 rfl) rfl rfl (x_assign rfl rfl) ?_)
                            refine l_of (s_val (v := .int .i64 ((nextE A x33.id))) (wt0 rfl) rfl rfl (x_assign rfl rfl) ?_)
                            refine g_nil ?_
                            refine g_then ?_
                            refine g_weak [(1, .int .i64 pc), (7, .pointer (some ⟨Y10.g, 0, none⟩)), (9, .pointer (some ⟨Y24.h, 0, none⟩)), (12, .pointer (some ⟨g34, 0, none⟩)), (14, .bool fr), (21, .int .i64 ((nextV A x33.id))), (22, .int .i64 ((nextE A x33.id))), (23, .int .i64 ((countT A (nextV A x33.id)))), (24, .int .i64 ((nextV A x33.id))), (25, .int .i64 ((nextE A x33.id))), (78, .slice p n c), (79, .int .i64 ((n : Int))), (80, .int .i64 ((j9 : Int)))] ⟨rfl, rfl, rfl, rfl, rfl, rfl, rfl, rfl, rfl, rfl, rfl, rfl, rfl, trivial⟩ ?_
                            refine g_region ?_
                            refine l_of (s_val (v := .int .i64 ((nextV A x33.id))) (wt0 rfl) rfl rfl (x_move rfl rfl) ?_)
                            refine l_of (s_val (v := .int .i64 ((nextV A x33.id))) (wt0 rfl) rfl rfl (x_move rfl rfl) ?_)
                            refine l_of (s_val (v := .bool (decide (((nextV A x33.id) : Int) = (nextV A x33.id)))) (wt0 rfl) rfl rfl (x_bin rfl rfl rfl b_eql) ?_)
                            refine l_of (s_val (v := .bool (decide (((nextV A x33.id) : Int) = (nextV A x33.id)))) (wt0 rfl) rfl rfl (x_move rfl rfl) ?_)
                            refine l_of (s_val (v := .int .i64 ((nextE A x33.id))) (wt1 rfl rfl rfl rfl (decide_eq_true rfl)) rfl rfl (x_move rfl rfl) ?_)
                            refine l_of (s_val (v := .int .i64 ((nextE A x33.id))) (wt1 rfl rfl rfl rfl (decide_eq_true rfl)) rfl rfl (x_move rfl rfl) ?_)
                            refine l_of (s_val (v := .bool (decide (((nextE A x33.id) : Int) = (nextE A x33.id)))) (wt1 rfl rfl rfl rfl (decide_eq_true rfl)) rfl rfl (x_bin rfl rfl rfl b_eql) ?_)
                            refine l_of (s_val (v := .bool (decide (((nextE A x33.id) : Int) = (nextE A x33.id)))) (wt0 rfl) rfl rfl (x_pick_t rfl rfl (decide_eq_true rfl) rfl) ?_)
                            refine l_of (s_val (v := .bool (decide (((nextE A x33.id) : Int) = (nextE A x33.id)))) (wt0 rfl) rfl rfl (x_move rfl rfl) ?_)
                            refine l_of (s_val (v := .int .i64 ((nextE A x33.id))) (wt1 rfl rfl rfl rfl (decide_eq_true rfl)) rfl rfl (x_move rfl rfl) ?_)
                            refine l_of (s_val (v := .bool (!decide (((nextE A x33.id) : Int) = 0))) (wt1 rfl rfl rfl rfl (decide_eq_true rfl)) rfl rfl (x_bin rfl rfl rfl b_neq) ?_)
                            refine l_of (s_val (v := .bool (!decide (((nextE A x33.id) : Int) = 0))) (wt1 rfl rfl rfl rfl (decide_eq_true rfl)) rfl rfl (x_move rfl rfl) ?_)
                            refine l_of (s_val (v := .bool fr) (wt1 rfl rfl rfl rfl (nf hb230)) rfl rfl (x_move rfl rfl) ?_)
                            refine l_of (s_val (v := .bool (!fr)) (wt1 rfl rfl rfl rfl (nf hb230)) rfl rfl (x_not (b := fr) rfl rfl) ?_)
                            refine l_of (s_val (v := .bool (!fr)) (wt1 rfl rfl rfl rfl (decide_eq_true rfl)) rfl rfl (x_pick_f rfl rfl (nf hb230) rfl) ?_)
                            refine l_of (s_val (v := .bool (!fr)) (wt1 rfl rfl rfl rfl (decide_eq_true rfl)) rfl rfl (x_move rfl rfl) ?_)
                            rcases Bool.eq_false_or_eq_true (fr) with hb238 | hb238
                            · skip
                              refine l_of (s_val (v := .int .i64 ((countT A (nextV A x33.id)))) (wt1 rfl rfl rfl rfl (neg_of hb238)) rfl rfl (x_move rfl rfl) ?_)
                              refine l_of (s_val (v := .bool (decide (((countT A (nextV A x33.id)) : Int) = 0))) (wt1 rfl rfl rfl rfl (neg_of hb238)) rfl rfl (x_bin rfl rfl rfl b_eql) ?_)
                              refine l_of (s_val (v := .bool (decide (((countT A (nextV A x33.id)) : Int) = 0))) (wt1 rfl rfl rfl rfl (decide_eq_true rfl)) rfl rfl (x_pick_f rfl rfl (neg_of hb238) rfl) ?_)
                              refine l_of (s_val (v := .bool (decide (((countT A (nextV A x33.id)) : Int) = 0))) (wt0 rfl) rfl rfl (x_pick_t rfl rfl (decide_eq_true rfl) rfl) ?_)
                              refine l_of (s_val (v := .bool (decide (((countT A (nextV A x33.id)) : Int) = 0))) (wt0 rfl) rfl rfl (x_assign rfl rfl) ?_)
                              refine g_nil ?_
                              refine g_in ?_
                              refine g_then ?_
                              refine g_weak [(1, .int .i64 pc), (7, .pointer (some ⟨Y10.g, 0, none⟩)), (9, .pointer (some ⟨Y24.h, 0, none⟩)), (12, .pointer (some ⟨g34, 0, none⟩)), (13, .bool (decide (((countT A (nextV A x33.id)) : Int) = 0))), (78, .slice p n c), (79, .int .i64 ((n : Int))), (80, .int .i64 ((j9 : Int)))] ⟨rfl, rfl, rfl, rfl, rfl, rfl, rfl, rfl, trivial⟩ ?_
                              refine g_seq ?_
                              refine g_region ?_
                              have hPJ2 := (hPJ.next (id := x33.id))
                              refine l_of (s_val (v := .pointer (some ⟨Y10.g, 0, none⟩)) (wt0 rfl) rfl rfl (x_move rfl rfl) ?_)
                              refine l_of (s_val (v := .pointer (some ⟨g34, 1, none⟩)) (wt0 rfl) rfl rfl (x_fieldAddr rfl rfl fo32_1 rfl) ?_)
                              refine l_of (s_val (v := .int .i64 (x33.id)) (wt0 rfl) rfl rfl (x_load1 H237 3 rfl rfl Tryd.underlying3 rfl rfl rfl) ?_)
                              refine l_of (s_call (wt0 rfl) (x_call' rfl rfl cl18) (told_gx (id := x33.id) hPJ2 (by omega) hYg226 hYA227 (hok _ (List.mem_of_getElem? hx33)).1 _ (H237.takes [2] (by decide))) ?_)
                              rintro _ wq242 ⟨pt239, ct240, rfl, H243⟩
                              replace H243 : S wq242 [Rw 3 1 pt239 ((toldV (nextA A x33.id) x33.id).length) ct240 (fl intL (toldV (nextA A x33.id) x33.id)), Y225.I, Y233.I, Old w no, Ob g34 (.cells #[.int .i64 (x33.kind), .int .i64 (x33.id), .int .i64 (x33.pc)] 32 (0, 0))] := H237.absorbI (new := [Rw 3 1 pt239 ((toldV (nextA A x33.id) x33.id).length) ct240 (fl intL (toldV (nextA A x33.id) x33.id)), Y225.I]) [2] H243
                              have hl241 := toldV_len hPJ2 x33.id
                              refine b_ret rfl rfl ?_
                              refine l_of (s_val (v := .tuple #[.slice pt239 ((toldV (nextA A x33.id) x33.id).length) ct240, .int .i64 ((findE (nextA A x33.id) x33.id))]) (wt0 rfl) rfl rfl (x_move rfl rfl) ?_)
                              refine l_of (s_val (v := .slice pt239 ((toldV (nextA A x33.id) x33.id).length) ct240) (wt0 rfl) rfl rfl (x_extract rfl rfl rfl) ?_)
                              refine l_of (s_val (v := .int .i64 ((findE (nextA A x33.id) x33.id))) (wt0 rfl) rfl rfl (x_extract rfl rfl rfl) ?_)
                              refine l_of (s_val (v := .slice pt239 ((toldV (nextA A x33.id) x33.id).length) ct240) (wt0 rfl) rfl rfl (x_assign rfl rfl) ?_)
                              refine l_of (s_val (v := .int .i64 ((findE (nextA A x33.id) x33.id))) (wt0 rfl) rfl rfl (x_assign rfl rfl) ?_)
                              refine g_nil ?_
                              refine g_then ?_
                              refine g_seq ?_
                              refine g_region ?_
                              refine l_of (s_val (v := .pointer (some ⟨Y24.h, 0, none⟩)) (wt0 rfl) rfl rfl (x_move rfl rfl) ?_)
                              refine l_of (s_val (v := .pointer (some ⟨g34, 1, none⟩)) (wt0 rfl) rfl rfl (x_fieldAddr rfl rfl fo32_1 rfl) ?_)
                              refine l_of (s_val (v := .int .i64 (x33.id)) (wt0 rfl) rfl rfl (x_load1 H243 4 rfl rfl Tryd.underlying3 rfl rfl rfl) ?_)
                              refine l_of (s_call (wt0 rfl) (x_call' rfl rfl cl13) (told_gr (id := x33.id) hPJ2 (by omega) hYg234 hYA235 _ (H243.takes [2] (by decide))) ?_)
                              rintro _ wq248 ⟨pt244, ct245, rfl, hT247, H249⟩
                              replace H249 : S wq248 [Y233.I, Rw 3 1 pt239 ((toldV (nextA A x33.id) x33.id).length) ct240 (fl intL (toldV (nextA A x33.id) x33.id)), Y225.I, Old w no, Ob g34 (.cells #[.int .i64 (x33.kind), .int .i64 (x33.id), .int .i64 (x33.pc)] 32 (0, 0))] := H243.absorbI (new := [Y233.I]) [2] H249
                              have hl246 := toldV_len hPJ2 x33.id
                              refine b_ret rfl rfl ?_
                              refine l_of (s_val (v := .tuple #[.slice pt244 ((toldV (nextA A x33.id) x33.id).length) ct245, .int .i64 ((findE (nextA A x33.id) x33.id))]) (wt0 rfl) rfl rfl (x_move rfl rfl) ?_)
                              refine l_of (s_val (v := .slice pt244 ((toldV (nextA A x33.id) x33.id).length) ct245) (wt0 rfl) rfl rfl (x_extract rfl rfl rfl) ?_)
                              refine l_of (s_val (v := .int .i64 ((findE (nextA A x33.id) x33.id))) (wt0 rfl) rfl rfl (x_extract rfl rfl rfl) ?_)
                              refine l_of (s_val (v := .slice pt244 ((toldV (nextA A x33.id) x33.id).length) ct245) (wt0 rfl) rfl rfl (x_assign rfl rfl) ?_)
                              refine l_of (s_val (v := .int .i64 ((findE (nextA A x33.id) x33.id))) (wt0 rfl) rfl rfl (x_assign rfl rfl) ?_)
                              refine g_nil ?_
                              refine g_then ?_
                              refine g_weak [(1, .int .i64 pc), (7, .pointer (some ⟨Y10.g, 0, none⟩)), (9, .pointer (some ⟨Y24.h, 0, none⟩)), (12, .pointer (some ⟨g34, 0, none⟩)), (13, .bool (decide (((countT A (nextV A x33.id)) : Int) = 0))), (26, .slice pt239 ((toldV (nextA A x33.id) x33.id).length) ct240), (27, .int .i64 ((findE (nextA A x33.id) x33.id))), (28, .slice pt244 ((toldV (nextA A x33.id) x33.id).length) ct245), (29, .int .i64 ((findE (nextA A x33.id) x33.id))), (78, .slice p n c), (79, .int .i64 ((n : Int))), (80, .int .i64 ((j9 : Int)))] ⟨rfl, rfl, rfl, rfl, rfl, rfl, rfl, rfl, rfl, rfl, rfl, rfl, trivial⟩ ?_
                              refine g_seq ?_
                              refine g_region ?_
                              refine l_of (s_val (v := .pointer (some ⟨Y10.g, 0, none⟩)) (wt0 rfl) rfl rfl (x_move rfl rfl) ?_)
                              refine l_of (s_val (v := .pointer (some ⟨g34, 2, none⟩)) (wt0 rfl) rfl rfl (x_fieldAddr rfl rfl fo32_2 rfl) ?_)
                              refine l_of (s_val (v := .int .i64 (x33.pc)) (wt0 rfl) rfl rfl (x_load1 H249 4 rfl rfl Tryd.underlying3 rfl rfl rfl) ?_)
                              refine l_of (s_call (wt0 rfl) (x_call' rfl rfl cl19) (count_gx (k := x33.pc) hPJ2 (by omega) hYg226 hYA227 _ (H249.takes [2] (by decide))) ?_)
                              rintro _ wq250 ⟨rfl, H251⟩
                              replace H251 : S wq250 [Y225.I, Y233.I, Rw 3 1 pt239 ((toldV (nextA A x33.id) x33.id).length) ct240 (fl intL (toldV (nextA A x33.id) x33.id)), Old w no, Ob g34 (.cells #[.int .i64 (x33.kind), .int .i64 (x33.id), .int .i64 (x33.pc)] 32 (0, 0))] := H249.absorbI (new := [Y225.I]) [2] H251
                              refine b_ret rfl rfl ?_
                              refine l_of (s_val (v := .tuple #[.int .i64 ((countT (nextA A x33.id) x33.pc)), .int .i64 ((countH (nextA A x33.id) x33.pc)), .int .i64 ((countE (nextA A x33.id) x33.pc))]) (wt0 rfl) rfl rfl (x_move rfl rfl) ?_)
                              refine l_of (s_val (v := .int .i64 ((countT (nextA A x33.id) x33.pc))) (wt0 rfl) rfl rfl (x_extract rfl rfl rfl) ?_)
                              refine l_of (s_val (v := .int .i64 ((countH (nextA A x33.id) x33.pc))) (wt0 rfl) rfl rfl (x_extract rfl rfl rfl) ?_)
                              refine l_of (s_val (v := .int .i64 ((countE (nextA A x33.id) x33.pc))) (wt0 rfl) rfl rfl (x_extract rfl rfl rfl) ?_)
                              refine l_of (s_val (v := .int .i64 ((countT (nextA A x33.id) x33.pc))) (wt0 rfl) rfl rfl (x_assign rfl rfl) ?_)
                              refine l_of (s_val (v := .int .i64 ((countH (nextA A x33.id) x33.pc))) (wt0 rfl) rfl rfl (x_assign rfl rfl) ?_)
                              refine l_of (s_val (v := .int .i64 ((countE (nextA A x33.id) x33.pc))) (wt0 rfl) rfl rfl (x_assign rfl rfl) ?_)
                              refine g_nil ?_
                              refine g_then ?_
                              refine g_seq ?_
                              refine g_region ?_
                              refine l_of (s_val (v := .pointer (some ⟨Y24.h, 0, none⟩)) (wt0 rfl) rfl rfl (x_move rfl rfl) ?_)
                              refine l_of (s_val (v := .pointer (some ⟨g34, 2, none⟩)) (wt0 rfl) rfl rfl (x_fieldAddr rfl rfl fo32_2 rfl) ?_)
                              refine l_of (s_val (v := .int .i64 (x33.pc)) (wt0 rfl) rfl rfl (x_load1 H251 4 rfl rfl Tryd.underlying3 rfl rfl rfl) ?_)
                              refine l_of (s_call (wt0 rfl) (x_call' rfl rfl cl14) (count_gr (k := x33.pc) hPJ2 (by omega) hYg234 hYA235 _ (H251.takes [1] (by decide))) ?_)
                              rintro _ wq252 ⟨rfl, H253⟩
                              replace H253 : S wq252 [Y233.I, Y225.I, Rw 3 1 pt239 ((toldV (nextA A x33.id) x33.id).length) ct240 (fl intL (toldV (nextA A x33.id) x33.id)), Old w no, Ob g34 (.cells #[.int .i64 (x33.kind), .int .i64 (x33.id), .int .i64 (x33.pc)] 32 (0, 0))] := H251.absorbI (new := [Y233.I]) [1] H253
                              refine b_ret rfl rfl ?_
                              refine l_of (s_val (v := .tuple #[.int .i64 ((countT (nextA A x33.id) x33.pc)), .int .i64 ((countH (nextA A x33.id) x33.pc)), .int .i64 ((countE (nextA A x33.id) x33.pc))]) (wt0 rfl) rfl rfl (x_move rfl rfl) ?_)
                              refine l_of (s_val (v := .int .i64 ((countT (nextA A x33.id) x33.pc))) (wt0 rfl) rfl rfl (x_extract rfl rfl rfl) ?_)
                              refine l_of (s_val (v := .int .i64 ((countH (nextA A x33.id) x33.pc))) (wt0 rfl) rfl rfl (x_extract rfl rfl rfl) ?_)
                              refine l_of (s_val (v := .int .i64 ((countE (nextA A x33.id) x33.pc))) (wt0 rfl) rfl rfl (x_extract rfl rfl rfl) ?_)
                              refine l_of (s_val (v := .int .i64 ((countT (nextA A x33.id) x33.pc))) (wt0 rfl) rfl rfl (x_assign rfl rfl) ?_)
                              refine l_of (s_val (v := .int .i64 ((countH (nextA A x33.id) x33.pc))) (wt0 rfl) rfl rfl (x_assign rfl rfl) ?_)
                              refine l_of (s_val (v := .int .i64 ((countE (nextA A x33.id) x33.pc))) (wt0 rfl) rfl rfl (x_assign rfl rfl) ?_)
                              refine g_nil ?_
                              refine g_then ?_
                              refine g_weak [(1, .int .i64 pc), (7, .pointer (some ⟨Y10.g, 0, none⟩)), (9, .pointer (some ⟨Y24.h, 0, none⟩)), (13, .bool (decide (((countT A (nextV A x33.id)) : Int) = 0))), (26, .slice pt239 ((toldV (nextA A x33.id) x33.id).length) ct240), (27, .int .i64 ((findE (nextA A x33.id) x33.id))), (28, .slice pt244 ((toldV (nextA A x33.id) x33.id).length) ct245), (29, .int .i64 ((findE (nextA A x33.id) x33.id))), (30, .int .i64 ((countT (nextA A x33.id) x33.pc))), (31, .int .i64 ((countH (nextA A x33.id) x33.pc))), (32, .int .i64 ((countE (nextA A x33.id) x33.pc))), (33, .int .i64 ((countT (nextA A x33.id) x33.pc))), (34, .int .i64 ((countH (nextA A x33.id) x33.pc))), (35, .int .i64 ((countE (nextA A x33.id) x33.pc))), (78, .slice p n c), (79, .int .i64 ((n : Int))), (80, .int .i64 ((j9 : Int)))] ⟨rfl, rfl, rfl, rfl, rfl, rfl, rfl, rfl, rfl, rfl, rfl, rfl, rfl, rfl, rfl, rfl, rfl, trivial⟩ ?_
                              refine g_seq ?_
                              refine g_region ?_
                              refine l_of (s_val (v := .bool (decide (((countT A (nextV A x33.id)) : Int) = 0))) (wt0 rfl) rfl rfl (x_move rfl rfl) ?_)
                              refine l_of (s_val (v := .bool (!decide (((countT A (nextV A x33.id)) : Int) = 0))) (wt0 rfl) rfl rfl (x_not (b := decide (((countT A (nextV A x33.id)) : Int) = 0)) rfl rfl) ?_)
                              refine l_of (s_val (v := .bool (!decide (((countT A (nextV A x33.id)) : Int) = 0))) (wt0 rfl) rfl rfl (x_move rfl rfl) ?_)
                              by_cases hb254 : ((countT A (nextV A x33.id)) : Int) = 0
                              · skip
                                refine l_of (s_val (v := .slice pt239 ((toldV (nextA A x33.id) x33.id).length) ct240) (wt1 rfl rfl rfl rfl (nf hb254)) rfl rfl (x_move rfl rfl) ?_)
                                refine l_of (s_val (v := .slice pt244 ((toldV (nextA A x33.id) x33.id).length) ct245) (wt1 rfl rfl rfl rfl (nf hb254)) rfl rfl (x_move rfl rfl) ?_)
                                refine l_of (s_call (wt1 rfl rfl rfl rfl (nf hb254)) (x_call' rfl rfl cl20) (same_i (toldV (nextA A x33.id) x33.id) (by omega) pt239 ((toldV (nextA A x33.id) x33.id).length) ct240 pt244 ((toldV (nextA A x33.id) x33.id).length) ct245 _ (H253.rwReads (k := 2) rfl) ((hT247 _ (H253.takes [0] (by decide))))) ?_)
                                rintro _ wq255 ⟨rfl, H256⟩
                                replace H256 : S wq255 [Y233.I, Y225.I, Rw 3 1 pt239 ((toldV (nextA A x33.id) x33.id).length) ct240 (fl intL (toldV (nextA A x33.id) x33.id)), Old w no, Ob g34 (.cells #[.int .i64 (x33.kind), .int .i64 (x33.id), .int .i64 (x33.pc)] 32 (0, 0))] := H253.absorb (new := []) H256
                                refine b_ret rfl rfl ?_
                                refine l_of (s_val (v := .bool false) (wt1 rfl rfl rfl rfl (nf hb254)) rfl rfl (x_not (b := true) rfl rfl) ?_)
                                refine l_of (s_val (v := .bool false) (wt0 rfl) rfl rfl (x_pick_f rfl rfl (nf hb254) rfl) ?_)
                                refine l_of (s_val (v := .bool false) (wt0 rfl) rfl rfl (x_move rfl rfl) ?_)
                                refine l_of (s_val (v := .int .i64 ((findE (nextA A x33.id) x33.id))) (wt1 rfl rfl rfl rfl rfl) rfl rfl (x_move rfl rfl) ?_)
                                refine l_of (s_val (v := .int .i64 ((findE (nextA A x33.id) x33.id))) (wt1 rfl rfl rfl rfl rfl) rfl rfl (x_move rfl rfl) ?_)
                                refine l_of (s_val (v := .bool (!decide (((findE (nextA A x33.id) x33.id) : Int) = (findE (nextA A x33.id) x33.id)))) (wt1 rfl rfl rfl rfl rfl) rfl rfl (x_bin rfl rfl rfl b_neq) ?_)
                                refine l_of (s_val (v := .bool (!decide (((findE (nextA A x33.id) x33.id) : Int) = (findE (nextA A x33.id) x33.id)))) (wt0 rfl) rfl rfl (x_pick_f rfl rfl rfl rfl) ?_)
                                refine l_of (s_val (v := .bool (!decide (((findE (nextA A x33.id) x33.id) : Int) = (findE (nextA A x33.id) x33.id)))) (wt0 rfl) rfl rfl (x_move rfl rfl) ?_)
                                refine l_of (s_val (v := .int .i64 ((countT (nextA A x33.id) x33.pc))) (wt1 rfl rfl rfl rfl (nf rfl)) rfl rfl (x_move rfl rfl) ?_)
                                refine l_of (s_val (v := .int .i64 ((countT (nextA A x33.id) x33.pc))) (wt1 rfl rfl rfl rfl (nf rfl)) rfl rfl (x_move rfl rfl) ?_)
                                refine l_of (s_val (v := .bool (!decide (((countT (nextA A x33.id) x33.pc) : Int) = (countT (nextA A x33.id) x33.pc)))) (wt1 rfl rfl rfl rfl (nf rfl)) rfl rfl (x_bin rfl rfl rfl b_neq) ?_)
                                refine l_of (s_val (v := .bool (!decide (((countT (nextA A x33.id) x33.pc) : Int) = (countT (nextA A x33.id) x33.pc)))) (wt0 rfl) rfl rfl (x_pick_f rfl rfl (nf rfl) rfl) ?_)
                                refine l_of (s_val (v := .bool (!decide (((countT (nextA A x33.id) x33.pc) : Int) = (countT (nextA A x33.id) x33.pc)))) (wt0 rfl) rfl rfl (x_move rfl rfl) ?_)
                                refine l_of (s_val (v := .int .i64 ((countH (nextA A x33.id) x33.pc))) (wt1 rfl rfl rfl rfl (nf rfl)) rfl rfl (x_move rfl rfl) ?_)
                                refine l_of (s_val (v := .int .i64 ((countH (nextA A x33.id) x33.pc))) (wt1 rfl rfl rfl rfl (nf rfl)) rfl rfl (x_move rfl rfl) ?_)
                                refine l_of (s_val (v := .bool (!decide (((countH (nextA A x33.id) x33.pc) : Int) = (countH (nextA A x33.id) x33.pc)))) (wt1 rfl rfl rfl rfl (nf rfl)) rfl rfl (x_bin rfl rfl rfl b_neq) ?_)
                                refine l_of (s_val (v := .bool (!decide (((countH (nextA A x33.id) x33.pc) : Int) = (countH (nextA A x33.id) x33.pc)))) (wt0 rfl) rfl rfl (x_pick_f rfl rfl (nf rfl) rfl) ?_)
                                refine l_of (s_val (v := .bool (!decide (((countH (nextA A x33.id) x33.pc) : Int) = (countH (nextA A x33.id) x33.pc)))) (wt0 rfl) rfl rfl (x_move rfl rfl) ?_)
                                refine l_of (s_val (v := .int .i64 ((countE (nextA A x33.id) x33.pc))) (wt1 rfl rfl rfl rfl (nf rfl)) rfl rfl (x_move rfl rfl) ?_)
                                refine l_of (s_val (v := .int .i64 ((countE (nextA A x33.id) x33.pc))) (wt1 rfl rfl rfl rfl (nf rfl)) rfl rfl (x_move rfl rfl) ?_)
                                refine l_of (s_val (v := .bool (!decide (((countE (nextA A x33.id) x33.pc) : Int) = (countE (nextA A x33.id) x33.pc)))) (wt1 rfl rfl rfl rfl (nf rfl)) rfl rfl (x_bin rfl rfl rfl b_neq) ?_)
                                refine l_of (s_val (v := .bool (!decide (((countE (nextA A x33.id) x33.pc) : Int) = (countE (nextA A x33.id) x33.pc)))) (wt0 rfl) rfl rfl (x_pick_f rfl rfl (nf rfl) rfl) ?_)
                                refine l_of (s_val (v := .bool (!decide (((countE (nextA A x33.id) x33.pc) : Int) = (countE (nextA A x33.id) x33.pc)))) (wt0 rfl) rfl rfl (x_move rfl rfl) ?_)
                                refine l_of (s_val (v := .pointer (some ⟨Y10.g, 0, none⟩)) (wt1 rfl rfl rfl rfl (nf rfl)) rfl rfl (x_move rfl rfl) ?_)
                                refine l_of (s_call (wt1 rfl rfl rfl rfl (nf rfl)) (x_call' rfl rfl cl21) (whole_gx hPJ2 (by omega) hYg226 hYA227 _ (H256.takes [1] (by decide))) ?_)
                                rintro _ wq257 ⟨rfl, H258⟩
                                replace H258 : S wq257 [Y225.I, Y233.I, Rw 3 1 pt239 ((toldV (nextA A x33.id) x33.id).length) ct240 (fl intL (toldV (nextA A x33.id) x33.id)), Old w no, Ob g34 (.cells #[.int .i64 (x33.kind), .int .i64 (x33.id), .int .i64 (x33.pc)] 32 (0, 0))] := H256.absorbI (new := [Y225.I]) [1] H258
                                refine b_ret rfl rfl ?_
                                refine l_of (s_val (v := .pointer (some ⟨Y24.h, 0, none⟩)) (wt1 rfl rfl rfl rfl (nf rfl)) rfl rfl (x_move rfl rfl) ?_)
                                refine l_of (s_call (wt1 rfl rfl rfl rfl (nf rfl)) (x_call' rfl rfl cl22) (whole_gr hPJ2 (by omega) hYg234 hYA235 _ (H258.takes [1] (by decide))) ?_)
                                rintro _ wq259 ⟨rfl, H260⟩
                                replace H260 : S wq259 [Y233.I, Y225.I, Rw 3 1 pt239 ((toldV (nextA A x33.id) x33.id).length) ct240 (fl intL (toldV (nextA A x33.id) x33.id)), Old w no, Ob g34 (.cells #[.int .i64 (x33.kind), .int .i64 (x33.id), .int .i64 (x33.pc)] 32 (0, 0))] := H258.absorbI (new := [Y233.I]) [1] H260
                                refine b_ret rfl rfl ?_
                                refine l_of (s_val (v := .bool (!(((wholeB (nextA A x33.id))) == ((wholeB (nextA A x33.id)))))) (wt1 rfl rfl rfl rfl (nf rfl)) rfl rfl (x_bin rfl rfl rfl (b_neN Tryd.underlying4 rfl)) ?_)
                                refine l_of (s_val (v := .bool (!(((wholeB (nextA A x33.id))) == ((wholeB (nextA A x33.id)))))) (wt0 rfl) rfl rfl (x_pick_f rfl rfl (nf rfl) rfl) ?_)
                                refine g_nil ?_
                                refine g_then ?_
                                refine g_weak [(1, .int .i64 pc), (7, .pointer (some ⟨Y10.g, 0, none⟩)), (9, .pointer (some ⟨Y24.h, 0, none⟩)), (78, .slice p n c), (79, .int .i64 ((n : Int))), (80, .int .i64 ((j9 : Int))), (266, .bool (!(((wholeB (nextA A x33.id))) == ((wholeB (nextA A x33.id))))))] ⟨rfl, rfl, rfl, rfl, rfl, rfl, rfl, trivial⟩ ?_
                                refine g_cond_f rfl (neg_of (beq_self_eq_true ((wholeB (nextA A x33.id))))) ?_
                                refine g_skip ?_
                                refine g_in ?_
                                refine g_then ?_
                                refine g_region ?_
                                refine l_of (s_val (v := .int .i64 (((j9 + 1 : Nat) : Int))) (wt0 rfl) rfl rfl (x_bin rfl rfl rfl (b_add (by rw [w64 (by omega)]; omega))) ?_)
                                refine l_of (s_val (v := .int .i64 (((j9 + 1 : Nat) : Int))) (wt0 rfl) rfl rfl (x_move rfl rfl) ?_)
                                refine g_nil ?_
                                refine g_then ?_
                                refine g_round (i := (j9, X, Z, A)) ((j9 + 1), Y225, Y233, (nextA A x33.id)) ?_ ?_ ?_
                                · exact ⟨rfl, rfl, rfl, rfl, rfl, rfl, trivial⟩
                                · exact ⟨by omega, (hPJ.next (id := x33.id)), hYg226, hYA227, hYg234, hYA235, ((next_n).trans hAn), (H260.takes [1, 0, 3] (by decide))⟩
                                · (try dsimp only); omega
                              · skip
                                refine l_of (s_not (wn1 rfl rfl rfl rfl (nt hb254)) rfl rfl ?_)
                                refine l_of (s_not (wn1 rfl rfl rfl rfl (nt hb254)) rfl rfl ?_)
                                refine l_of (s_not (wn1 rfl rfl rfl rfl (nt hb254)) rfl rfl ?_)
                                refine l_of (s_not (wn1 rfl rfl rfl rfl (nt hb254)) rfl rfl ?_)
                                refine l_of (s_val (v := .bool true) (wt0 rfl) rfl rfl (x_pick_t rfl rfl (nt hb254) rfl) ?_)
                                refine l_of (s_val (v := .bool true) (wt0 rfl) rfl rfl (x_move rfl rfl) ?_)
                                refine l_of (s_not (wn1 rfl rfl rfl rfl rfl) rfl rfl ?_)
                                refine l_of (s_not (wn1 rfl rfl rfl rfl rfl) rfl rfl ?_)
                                refine l_of (s_not (wn1 rfl rfl rfl rfl rfl) rfl rfl ?_)
                                refine l_of (s_val (v := .bool true) (wt0 rfl) rfl rfl (x_pick_t rfl rfl rfl rfl) ?_)
                                refine l_of (s_val (v := .bool true) (wt0 rfl) rfl rfl (x_move rfl rfl) ?_)
                                refine l_of (s_not (wn1 rfl rfl rfl rfl rfl) rfl rfl ?_)
                                refine l_of (s_not (wn1 rfl rfl rfl rfl rfl) rfl rfl ?_)
                                refine l_of (s_not (wn1 rfl rfl rfl rfl rfl) rfl rfl ?_)
                                refine l_of (s_val (v := .bool true) (wt0 rfl) rfl rfl (x_pick_t rfl rfl rfl rfl) ?_)
                                refine l_of (s_val (v := .bool true) (wt0 rfl) rfl rfl (x_move rfl rfl) ?_)
                                refine l_of (s_not (wn1 rfl rfl rfl rfl rfl) rfl rfl ?_)
                                refine l_of (s_not (wn1 rfl rfl rfl rfl rfl) rfl rfl ?_)
                                refine l_of (s_not (wn1 rfl rfl rfl rfl rfl) rfl rfl ?_)
                                refine l_of (s_val (v := .bool true) (wt0 rfl) rfl rfl (x_pick_t rfl rfl rfl rfl) ?_)
                                refine l_of (s_val (v := .bool true) (wt0 rfl) rfl rfl (x_move rfl rfl) ?_)
                                refine l_of (s_not (wn1 rfl rfl rfl rfl rfl) rfl rfl ?_)
                                refine l_of (s_not (wn1 rfl rfl rfl rfl rfl) rfl rfl ?_)
                                refine l_of (s_not (wn1 rfl rfl rfl rfl rfl) rfl rfl ?_)
                                refine l_of (s_val (v := .bool true) (wt0 rfl) rfl rfl (x_pick_t rfl rfl rfl rfl) ?_)
                                refine l_of (s_val (v := .bool true) (wt0 rfl) rfl rfl (x_move rfl rfl) ?_)
                                refine l_of (s_not (wn1 rfl rfl rfl rfl rfl) rfl rfl ?_)
                                refine l_of (s_not (wn1 rfl rfl rfl rfl rfl) rfl rfl ?_)
                                refine l_of (s_not (wn1 rfl rfl rfl rfl rfl) rfl rfl ?_)
                                refine l_of (s_not (wn1 rfl rfl rfl rfl rfl) rfl rfl ?_)
                                refine l_of (s_not (wn1 rfl rfl rfl rfl rfl) rfl rfl ?_)
                                refine l_of (s_val (v := .bool true) (wt0 rfl) rfl rfl (x_pick_t rfl rfl rfl rfl) ?_)
                                refine g_nil ?_
                                refine g_then ?_
                                refine g_weak [(1, .int .i64 pc), (7, .pointer (some ⟨Y10.g, 0, none⟩)), (9, .pointer (some ⟨Y24.h, 0, none⟩)), (78, .slice p n c), (79, .int .i64 ((n : Int))), (80, .int .i64 ((j9 : Int))), (266, .bool true)] ⟨rfl, rfl, rfl, rfl, rfl, rfl, rfl, trivial⟩ ?_
                                refine g_cond_t rfl rfl ?_
                                refine g_seq ?_
                                refine g_region ?_
                                refine l_of (s_val (v := .bool false) (wt0 rfl) rfl rfl (x_assign rfl rfl) ?_)
                                refine g_nil ?_
                                refine g_then ?_
                                refine g_ret ?_
                                refine g_in_ret ?_
                                refine g_then_ret ?_
                                refine g_then_ret ?_
                                refine g_in_ret ?_
                                refine g_then_ret ?_
                                refine fin_ret [.tmp 6] [.bool false] rfl ⟨rfl, trivial⟩ ?_
                                exfalso
                                have hfl := fresh_law hPJ (id := x33.id) (by omega) (m := m) (by omega) (hfr (by simp_all))
                                first | omega | (simp_all; done)
                            · skip
                              refine l_of (s_not (wn1 rfl rfl rfl rfl (neg_of hb238)) rfl rfl ?_)
                              refine l_of (s_not (wn1 rfl rfl rfl rfl (neg_of hb238)) rfl rfl ?_)
                              refine l_of (s_val (v := .bool true) (wt1 rfl rfl rfl rfl (decide_eq_true rfl)) rfl rfl (x_pick_t rfl rfl (neg_of hb238) rfl) ?_)
                              refine l_of (s_val (v := .bool true) (wt0 rfl) rfl rfl (x_pick_t rfl rfl (decide_eq_true rfl) rfl) ?_)
                              refine l_of (s_val (v := .bool true) (wt0 rfl) rfl rfl (x_assign rfl rfl) ?_)
                              refine g_nil ?_
                              refine g_in ?_
                              refine g_then ?_
                              refine g_weak [(1, .int .i64 pc), (7, .pointer (some ⟨Y10.g, 0, none⟩)), (9, .pointer (some ⟨Y24.h, 0, none⟩)), (12, .pointer (some ⟨g34, 0, none⟩)), (13, .bool true), (78, .slice p n c), (79, .int .i64 ((n : Int))), (80, .int .i64 ((j9 : Int)))] ⟨rfl, rfl, rfl, rfl, rfl, rfl, rfl, rfl, trivial⟩ ?_
                              refine g_seq ?_
                              refine g_region ?_
                              have hPJ2 := (hPJ.next (id := x33.id))
                              refine l_of (s_val (v := .pointer (some ⟨Y10.g, 0, none⟩)) (wt0 rfl) rfl rfl (x_move rfl rfl) ?_)
                              refine l_of (s_val (v := .pointer (some ⟨g34, 1, none⟩)) (wt0 rfl) rfl rfl (x_fieldAddr rfl rfl fo32_1 rfl) ?_)
                              refine l_of (s_val (v := .int .i64 (x33.id)) (wt0 rfl) rfl rfl (x_load1 H237 3 rfl rfl Tryd.underlying3 rfl rfl rfl) ?_)
                              refine l_of (s_call (wt0 rfl) (x_call' rfl rfl cl18) (told_gx (id := x33.id) hPJ2 (by omega) hYg226 hYA227 (hok _ (List.mem_of_getElem? hx33)).1 _ (H237.takes [2] (by decide))) ?_)
                              rintro _ wq264 ⟨pt261, ct262, rfl, H265⟩
                              replace H265 : S wq264 [Rw 3 1 pt261 ((toldV (nextA A x33.id) x33.id).length) ct262 (fl intL (toldV (nextA A x33.id) x33.id)), Y225.I, Y233.I, Old w no, Ob g34 (.cells #[.int .i64 (x33.kind), .int .i64 (x33.id), .int .i64 (x33.pc)] 32 (0, 0))] := H237.absorbI (new := [Rw 3 1 pt261 ((toldV (nextA A x33.id) x33.id).length) ct262 (fl intL (toldV (nextA A x33.id) x33.id)), Y225.I]) [2] H265
                              have hl263 := toldV_len hPJ2 x33.id
                              refine b_ret rfl rfl ?_
                              refine l_of (s_val (v := .tuple #[.slice pt261 ((toldV (nextA A x33.id) x33.id).length) ct262, .int .i64 ((findE (nextA A x33.id) x33.id))]) (wt0 rfl) rfl rfl (x_move rfl rfl) ?_)
                              refine l_of (s_val (v := .slice pt261 ((toldV (nextA A x33.id) x33.id).length) ct262) (wt0 rfl) rfl rfl (x_extract rfl rfl rfl) ?_)
                              refine l_of (s_val (v := .int .i64 ((findE (nextA A x33.id) x33.id))) (wt0 rfl) rfl rfl (x_extract rfl rfl rfl) ?_)
                              refine l_of (s_val (v := .slice pt261 ((toldV (nextA A x33.id) x33.id).length) ct262) (wt0 rfl) rfl rfl (x_assign rfl rfl) ?_)
                              refine l_of (s_val (v := .int .i64 ((findE (nextA A x33.id) x33.id))) (wt0 rfl) rfl rfl (x_assign rfl rfl) ?_)
                              refine g_nil ?_
                              refine g_then ?_
                              refine g_seq ?_
                              refine g_region ?_
                              refine l_of (s_val (v := .pointer (some ⟨Y24.h, 0, none⟩)) (wt0 rfl) rfl rfl (x_move rfl rfl) ?_)
                              refine l_of (s_val (v := .pointer (some ⟨g34, 1, none⟩)) (wt0 rfl) rfl rfl (x_fieldAddr rfl rfl fo32_1 rfl) ?_)
                              refine l_of (s_val (v := .int .i64 (x33.id)) (wt0 rfl) rfl rfl (x_load1 H265 4 rfl rfl Tryd.underlying3 rfl rfl rfl) ?_)
                              refine l_of (s_call (wt0 rfl) (x_call' rfl rfl cl13) (told_gr (id := x33.id) hPJ2 (by omega) hYg234 hYA235 _ (H265.takes [2] (by decide))) ?_)
                              rintro _ wq270 ⟨pt266, ct267, rfl, hT269, H271⟩
                              replace H271 : S wq270 [Y233.I, Rw 3 1 pt261 ((toldV (nextA A x33.id) x33.id).length) ct262 (fl intL (toldV (nextA A x33.id) x33.id)), Y225.I, Old w no, Ob g34 (.cells #[.int .i64 (x33.kind), .int .i64 (x33.id), .int .i64 (x33.pc)] 32 (0, 0))] := H265.absorbI (new := [Y233.I]) [2] H271
                              have hl268 := toldV_len hPJ2 x33.id
                              refine b_ret rfl rfl ?_
                              refine l_of (s_val (v := .tuple #[.slice pt266 ((toldV (nextA A x33.id) x33.id).length) ct267, .int .i64 ((findE (nextA A x33.id) x33.id))]) (wt0 rfl) rfl rfl (x_move rfl rfl) ?_)
                              refine l_of (s_val (v := .slice pt266 ((toldV (nextA A x33.id) x33.id).length) ct267) (wt0 rfl) rfl rfl (x_extract rfl rfl rfl) ?_)
                              refine l_of (s_val (v := .int .i64 ((findE (nextA A x33.id) x33.id))) (wt0 rfl) rfl rfl (x_extract rfl rfl rfl) ?_)
                              refine l_of (s_val (v := .slice pt266 ((toldV (nextA A x33.id) x33.id).length) ct267) (wt0 rfl) rfl rfl (x_assign rfl rfl) ?_)
                              refine l_of (s_val (v := .int .i64 ((findE (nextA A x33.id) x33.id))) (wt0 rfl) rfl rfl (x_assign rfl rfl) ?_)
                              refine g_nil ?_
                              refine g_then ?_
                              refine g_weak [(1, .int .i64 pc), (7, .pointer (some ⟨Y10.g, 0, none⟩)), (9, .pointer (some ⟨Y24.h, 0, none⟩)), (12, .pointer (some ⟨g34, 0, none⟩)), (13, .bool true), (26, .slice pt261 ((toldV (nextA A x33.id) x33.id).length) ct262), (27, .int .i64 ((findE (nextA A x33.id) x33.id))), (28, .slice pt266 ((toldV (nextA A x33.id) x33.id).length) ct267), (29, .int .i64 ((findE (nextA A x33.id) x33.id))), (78, .slice p n c), (79, .int .i64 ((n : Int))), (80, .int .i64 ((j9 : Int)))] ⟨rfl, rfl, rfl, rfl, rfl, rfl, rfl, rfl, rfl, rfl, rfl, rfl, trivial⟩ ?_
                              refine g_seq ?_
                              refine g_region ?_
                              refine l_of (s_val (v := .pointer (some ⟨Y10.g, 0, none⟩)) (wt0 rfl) rfl rfl (x_move rfl rfl) ?_)
                              refine l_of (s_val (v := .pointer (some ⟨g34, 2, none⟩)) (wt0 rfl) rfl rfl (x_fieldAddr rfl rfl fo32_2 rfl) ?_)
                              refine l_of (s_val (v := .int .i64 (x33.pc)) (wt0 rfl) rfl rfl (x_load1 H271 4 rfl rfl Tryd.underlying3 rfl rfl rfl) ?_)
                              refine l_of (s_call (wt0 rfl) (x_call' rfl rfl cl19) (count_gx (k := x33.pc) hPJ2 (by omega) hYg226 hYA227 _ (H271.takes [2] (by decide))) ?_)
                              rintro _ wq272 ⟨rfl, H273⟩
                              replace H273 : S wq272 [Y225.I, Y233.I, Rw 3 1 pt261 ((toldV (nextA A x33.id) x33.id).length) ct262 (fl intL (toldV (nextA A x33.id) x33.id)), Old w no, Ob g34 (.cells #[.int .i64 (x33.kind), .int .i64 (x33.id), .int .i64 (x33.pc)] 32 (0, 0))] := H271.absorbI (new := [Y225.I]) [2] H273
                              refine b_ret rfl rfl ?_
                              refine l_of (s_val (v := .tuple #[.int .i64 ((countT (nextA A x33.id) x33.pc)), .int .i64 ((countH (nextA A x33.id) x33.pc)), .int .i64 ((countE (nextA A x33.id) x33.pc))]) (wt0 rfl) rfl rfl (x_move rfl rfl) ?_)
                              refine l_of (s_val (v := .int .i64 ((countT (nextA A x33.id) x33.pc))) (wt0 rfl) rfl rfl (x_extract rfl rfl rfl) ?_)
                              refine l_of (s_val (v := .int .i64 ((countH (nextA A x33.id) x33.pc))) (wt0 rfl) rfl rfl (x_extract rfl rfl rfl) ?_)
                              refine l_of (s_val (v := .int .i64 ((countE (nextA A x33.id) x33.pc))) (wt0 rfl) rfl rfl (x_extract rfl rfl rfl) ?_)
                              refine l_of (s_val (v := .int .i64 ((countT (nextA A x33.id) x33.pc))) (wt0 rfl) rfl rfl (x_assign rfl rfl) ?_)
                              refine l_of (s_val (v := .int .i64 ((countH (nextA A x33.id) x33.pc))) (wt0 rfl) rfl rfl (x_assign rfl rfl) ?_)
                              refine l_of (s_val (v := .int .i64 ((countE (nextA A x33.id) x33.pc))) (wt0 rfl) rfl rfl (x_assign rfl rfl) ?_)
                              refine g_nil ?_
                              refine g_then ?_
                              refine g_seq ?_
                              refine g_region ?_
                              refine l_of (s_val (v := .pointer (some ⟨Y24.h, 0, none⟩)) (wt0 rfl) rfl rfl (x_move rfl rfl) ?_)
                              refine l_of (s_val (v := .pointer (some ⟨g34, 2, none⟩)) (wt0 rfl) rfl rfl (x_fieldAddr rfl rfl fo32_2 rfl) ?_)
                              refine l_of (s_val (v := .int .i64 (x33.pc)) (wt0 rfl) rfl rfl (x_load1 H273 4 rfl rfl Tryd.underlying3 rfl rfl rfl) ?_)
                              refine l_of (s_call (wt0 rfl) (x_call' rfl rfl cl14) (count_gr (k := x33.pc) hPJ2 (by omega) hYg234 hYA235 _ (H273.takes [1] (by decide))) ?_)
                              rintro _ wq274 ⟨rfl, H275⟩
                              replace H275 : S wq274 [Y233.I, Y225.I, Rw 3 1 pt261 ((toldV (nextA A x33.id) x33.id).length) ct262 (fl intL (toldV (nextA A x33.id) x33.id)), Old w no, Ob g34 (.cells #[.int .i64 (x33.kind), .int .i64 (x33.id), .int .i64 (x33.pc)] 32 (0, 0))] := H273.absorbI (new := [Y233.I]) [1] H275
                              refine b_ret rfl rfl ?_
                              refine l_of (s_val (v := .tuple #[.int .i64 ((countT (nextA A x33.id) x33.pc)), .int .i64 ((countH (nextA A x33.id) x33.pc)), .int .i64 ((countE (nextA A x33.id) x33.pc))]) (wt0 rfl) rfl rfl (x_move rfl rfl) ?_)
                              refine l_of (s_val (v := .int .i64 ((countT (nextA A x33.id) x33.pc))) (wt0 rfl) rfl rfl (x_extract rfl rfl rfl) ?_)
                              refine l_of (s_val (v := .int .i64 ((countH (nextA A x33.id) x33.pc))) (wt0 rfl) rfl rfl (x_extract rfl rfl rfl) ?_)
                              refine l_of (s_val (v := .int .i64 ((countE (nextA A x33.id) x33.pc))) (wt0 rfl) rfl rfl (x_extract rfl rfl rfl) ?_)
                              refine l_of (s_val (v := .int .i64 ((countT (nextA A x33.id) x33.pc))) (wt0 rfl) rfl rfl (x_assign rfl rfl) ?_)
                              refine l_of (s_val (v := .int .i64 ((countH (nextA A x33.id) x33.pc))) (wt0 rfl) rfl rfl (x_assign rfl rfl) ?_)
                              refine l_of (s_val (v := .int .i64 ((countE (nextA A x33.id) x33.pc))) (wt0 rfl) rfl rfl (x_assign rfl rfl) ?_)
                              refine g_nil ?_
                              refine g_then ?_
                              refine g_weak [(1, .int .i64 pc), (7, .pointer (some ⟨Y10.g, 0, none⟩)), (9, .pointer (some ⟨Y24.h, 0, none⟩)), (13, .bool true), (26, .slice pt261 ((toldV (nextA A x33.id) x33.id).length) ct262), (27, .int .i64 ((findE (nextA A x33.id) x33.id))), (28, .slice pt266 ((toldV (nextA A x33.id) x33.id).length) ct267), (29, .int .i64 ((findE (nextA A x33.id) x33.id))), (30, .int .i64 ((countT (nextA A x33.id) x33.pc))), (31, .int .i64 ((countH (nextA A x33.id) x33.pc))), (32, .int .i64 ((countE (nextA A x33.id) x33.pc))), (33, .int .i64 ((countT (nextA A x33.id) x33.pc))), (34, .int .i64 ((countH (nextA A x33.id) x33.pc))), (35, .int .i64 ((countE (nextA A x33.id) x33.pc))), (78, .slice p n c), (79, .int .i64 ((n : Int))), (80, .int .i64 ((j9 : Int)))] ⟨rfl, rfl, rfl, rfl, rfl, rfl, rfl, rfl, rfl, rfl, rfl, rfl, rfl, rfl, rfl, rfl, rfl, trivial⟩ ?_
                              refine g_seq ?_
                              refine g_region ?_
                              refine l_of (s_val (v := .bool true) (wt0 rfl) rfl rfl (x_move rfl rfl) ?_)
                              refine l_of (s_val (v := .bool false) (wt0 rfl) rfl rfl (x_not (b := true) rfl rfl) ?_)
                              refine l_of (s_val (v := .bool false) (wt0 rfl) rfl rfl (x_move rfl rfl) ?_)
                              refine l_of (s_val (v := .slice pt261 ((toldV (nextA A x33.id) x33.id).length) ct262) (wt1 rfl rfl rfl rfl rfl) rfl rfl (x_move rfl rfl) ?_)
                              refine l_of (s_val (v := .slice pt266 ((toldV (nextA A x33.id) x33.id).length) ct267) (wt1 rfl rfl rfl rfl rfl) rfl rfl (x_move rfl rfl) ?_)
                              refine l_of (s_call (wt1 rfl rfl rfl rfl rfl) (x_call' rfl rfl cl20) (same_i (toldV (nextA A x33.id) x33.id) (by omega) pt261 ((toldV (nextA A x33.id) x33.id).length) ct262 pt266 ((toldV (nextA A x33.id) x33.id).length) ct267 _ (H275.rwReads (k := 2) rfl) ((hT269 _ (H275.takes [0] (by decide))))) ?_)
                              rintro _ wq276 ⟨rfl, H277⟩
                              replace H277 : S wq276 [Y233.I, Y225.I, Rw 3 1 pt261 ((toldV (nextA A x33.id) x33.id).length) ct262 (fl intL (toldV (nextA A x33.id) x33.id)), Old w no, Ob g34 (.cells #[.int .i64 (x33.kind), .int .i64 (x33.id), .int .i64 (x33.pc)] 32 (0, 0))] := H275.absorb (new := []) H277
                              refine b_ret rfl rfl ?_
                              refine l_of (s_val (v := .bool false) (wt1 rfl rfl rfl rfl rfl) rfl rfl (x_not (b := true) rfl rfl) ?_)
                              refine l_of (s_val (v := .bool false) (wt0 rfl) rfl rfl (x_pick_f rfl rfl rfl rfl) ?_)
                              refine l_of (s_val (v := .bool false) (wt0 rfl) rfl rfl (x_move rfl rfl) ?_)
                              refine l_of (s_val (v := .int .i64 ((findE (nextA A x33.id) x33.id))) (wt1 rfl rfl rfl rfl rfl) rfl rfl (x_move rfl rfl) ?_)
                              refine l_of (s_val (v := .int .i64 ((findE (nextA A x33.id) x33.id))) (wt1 rfl rfl rfl rfl rfl) rfl rfl (x_move rfl rfl) ?_)
                              refine l_of (s_val (v := .bool (!decide (((findE (nextA A x33.id) x33.id) : Int) = (findE (nextA A x33.id) x33.id)))) (wt1 rfl rfl rfl rfl rfl) rfl rfl (x_bin rfl rfl rfl b_neq) ?_)
                              refine l_of (s_val (v := .bool (!decide (((findE (nextA A x33.id) x33.id) : Int) = (findE (nextA A x33.id) x33.id)))) (wt0 rfl) rfl rfl (x_pick_f rfl rfl rfl rfl) ?_)
                              refine l_of (s_val (v := .bool (!decide (((findE (nextA A x33.id) x33.id) : Int) = (findE (nextA A x33.id) x33.id)))) (wt0 rfl) rfl rfl (x_move rfl rfl) ?_)
                              refine l_of (s_val (v := .int .i64 ((countT (nextA A x33.id) x33.pc))) (wt1 rfl rfl rfl rfl (nf rfl)) rfl rfl (x_move rfl rfl) ?_)
                              refine l_of (s_val (v := .int .i64 ((countT (nextA A x33.id) x33.pc))) (wt1 rfl rfl rfl rfl (nf rfl)) rfl rfl (x_move rfl rfl) ?_)
                              refine l_of (s_val (v := .bool (!decide (((countT (nextA A x33.id) x33.pc) : Int) = (countT (nextA A x33.id) x33.pc)))) (wt1 rfl rfl rfl rfl (nf rfl)) rfl rfl (x_bin rfl rfl rfl b_neq) ?_)
                              refine l_of (s_val (v := .bool (!decide (((countT (nextA A x33.id) x33.pc) : Int) = (countT (nextA A x33.id) x33.pc)))) (wt0 rfl) rfl rfl (x_pick_f rfl rfl (nf rfl) rfl) ?_)
                              refine l_of (s_val (v := .bool (!decide (((countT (nextA A x33.id) x33.pc) : Int) = (countT (nextA A x33.id) x33.pc)))) (wt0 rfl) rfl rfl (x_move rfl rfl) ?_)
                              refine l_of (s_val (v := .int .i64 ((countH (nextA A x33.id) x33.pc))) (wt1 rfl rfl rfl rfl (nf rfl)) rfl rfl (x_move rfl rfl) ?_)
                              refine l_of (s_val (v := .int .i64 ((countH (nextA A x33.id) x33.pc))) (wt1 rfl rfl rfl rfl (nf rfl)) rfl rfl (x_move rfl rfl) ?_)
                              refine l_of (s_val (v := .bool (!decide (((countH (nextA A x33.id) x33.pc) : Int) = (countH (nextA A x33.id) x33.pc)))) (wt1 rfl rfl rfl rfl (nf rfl)) rfl rfl (x_bin rfl rfl rfl b_neq) ?_)
                              refine l_of (s_val (v := .bool (!decide (((countH (nextA A x33.id) x33.pc) : Int) = (countH (nextA A x33.id) x33.pc)))) (wt0 rfl) rfl rfl (x_pick_f rfl rfl (nf rfl) rfl) ?_)
                              refine l_of (s_val (v := .bool (!decide (((countH (nextA A x33.id) x33.pc) : Int) = (countH (nextA A x33.id) x33.pc)))) (wt0 rfl) rfl rfl (x_move rfl rfl) ?_)
                              refine l_of (s_val (v := .int .i64 ((countE (nextA A x33.id) x33.pc))) (wt1 rfl rfl rfl rfl (nf rfl)) rfl rfl (x_move rfl rfl) ?_)
                              refine l_of (s_val (v := .int .i64 ((countE (nextA A x33.id) x33.pc))) (wt1 rfl rfl rfl rfl (nf rfl)) rfl rfl (x_move rfl rfl) ?_)
                              refine l_of (s_val (v := .bool (!decide (((countE (nextA A x33.id) x33.pc) : Int) = (countE (nextA A x33.id) x33.pc)))) (wt1 rfl rfl rfl rfl (nf rfl)) rfl rfl (x_bin rfl rfl rfl b_neq) ?_)
                              refine l_of (s_val (v := .bool (!decide (((countE (nextA A x33.id) x33.pc) : Int) = (countE (nextA A x33.id) x33.pc)))) (wt0 rfl) rfl rfl (x_pick_f rfl rfl (nf rfl) rfl) ?_)
                              refine l_of (s_val (v := .bool (!decide (((countE (nextA A x33.id) x33.pc) : Int) = (countE (nextA A x33.id) x33.pc)))) (wt0 rfl) rfl rfl (x_move rfl rfl) ?_)
                              refine l_of (s_val (v := .pointer (some ⟨Y10.g, 0, none⟩)) (wt1 rfl rfl rfl rfl (nf rfl)) rfl rfl (x_move rfl rfl) ?_)
                              refine l_of (s_call (wt1 rfl rfl rfl rfl (nf rfl)) (x_call' rfl rfl cl21) (whole_gx hPJ2 (by omega) hYg226 hYA227 _ (H277.takes [1] (by decide))) ?_)
                              rintro _ wq278 ⟨rfl, H279⟩
                              replace H279 : S wq278 [Y225.I, Y233.I, Rw 3 1 pt261 ((toldV (nextA A x33.id) x33.id).length) ct262 (fl intL (toldV (nextA A x33.id) x33.id)), Old w no, Ob g34 (.cells #[.int .i64 (x33.kind), .int .i64 (x33.id), .int .i64 (x33.pc)] 32 (0, 0))] := H277.absorbI (new := [Y225.I]) [1] H279
                              refine b_ret rfl rfl ?_
                              refine l_of (s_val (v := .pointer (some ⟨Y24.h, 0, none⟩)) (wt1 rfl rfl rfl rfl (nf rfl)) rfl rfl (x_move rfl rfl) ?_)
                              refine l_of (s_call (wt1 rfl rfl rfl rfl (nf rfl)) (x_call' rfl rfl cl22) (whole_gr hPJ2 (by omega) hYg234 hYA235 _ (H279.takes [1] (by decide))) ?_)
                              rintro _ wq280 ⟨rfl, H281⟩
                              replace H281 : S wq280 [Y233.I, Y225.I, Rw 3 1 pt261 ((toldV (nextA A x33.id) x33.id).length) ct262 (fl intL (toldV (nextA A x33.id) x33.id)), Old w no, Ob g34 (.cells #[.int .i64 (x33.kind), .int .i64 (x33.id), .int .i64 (x33.pc)] 32 (0, 0))] := H279.absorbI (new := [Y233.I]) [1] H281
                              refine b_ret rfl rfl ?_
                              refine l_of (s_val (v := .bool (!(((wholeB (nextA A x33.id))) == ((wholeB (nextA A x33.id)))))) (wt1 rfl rfl rfl rfl (nf rfl)) rfl rfl (x_bin rfl rfl rfl (b_neN Tryd.underlying4 rfl)) ?_)
                              refine l_of (s_val (v := .bool (!(((wholeB (nextA A x33.id))) == ((wholeB (nextA A x33.id)))))) (wt0 rfl) rfl rfl (x_pick_f rfl rfl (nf rfl) rfl) ?_)
                              refine g_nil ?_
                              refine g_then ?_
                              refine g_weak [(1, .int .i64 pc), (7, .pointer (some ⟨Y10.g, 0, none⟩)), (9, .pointer (some ⟨Y24.h, 0, none⟩)), (78, .slice p n c), (79, .int .i64 ((n : Int))), (80, .int .i64 ((j9 : Int))), (266, .bool (!(((wholeB (nextA A x33.id))) == ((wholeB (nextA A x33.id))))))] ⟨rfl, rfl, rfl, rfl, rfl, rfl, rfl, trivial⟩ ?_
                              refine g_cond_f rfl (neg_of (beq_self_eq_true ((wholeB (nextA A x33.id))))) ?_
                              refine g_skip ?_
                              refine g_in ?_
                              refine g_then ?_
                              refine g_region ?_
                              refine l_of (s_val (v := .int .i64 (((j9 + 1 : Nat) : Int))) (wt0 rfl) rfl rfl (x_bin rfl rfl rfl (b_add (by rw [w64 (by omega)]; omega))) ?_)
                              refine l_of (s_val (v := .int .i64 (((j9 + 1 : Nat) : Int))) (wt0 rfl) rfl rfl (x_move rfl rfl) ?_)
                              refine g_nil ?_
                              refine g_then ?_
                              refine g_round (i := (j9, X, Z, A)) ((j9 + 1), Y225, Y233, (nextA A x33.id)) ?_ ?_ ?_
                              · exact ⟨rfl, rfl, rfl, rfl, rfl, rfl, trivial⟩
                              · exact ⟨by omega, (hPJ.next (id := x33.id)), hYg226, hYA227, hYg234, hYA235, ((next_n).trans hAn), (H281.takes [1, 0, 3] (by decide))⟩
                              · (try dsimp only); omega
                          · skip
                            refine g_cond_f rfl (decide_eq_false hb230) ?_
                            refine g_skip ?_
                            refine g_then ?_
                            refine g_seq ?_
                            refine g_region ?_
                            refine l_of (s_val (v := .pointer (some ⟨Y24.h, 0, none⟩)) (wt0 rfl) rfl rfl (x_move rfl rfl) ?_)
                            refine l_of (s_val (v := .pointer (some ⟨g34, 1, none⟩)) (wt0 rfl) rfl rfl (x_fieldAddr rfl rfl fo32_1 rfl) ?_)
                            refine l_of (s_val (v := .int .i64 (x33.id)) (wt0 rfl) rfl rfl (x_load1 H229 3 rfl rfl Tryd.underlying3 rfl rfl rfl) ?_)
                            refine l_of (s_call (wt0 rfl) (x_call' rfl rfl cl17) (next_gr (id := x33.id) hPJ (by omega) hZg hZA ht _ (H229.takes [2, 1] (by decide))) ?_)
                            rintro _ wq285 ⟨Y282, hYg283, hYA284, rfl, H286⟩
                            replace H286 : S wq285 [Y282.I, Old w no, Y225.I, Ob g34 (.cells #[.int .i64 (x33.kind), .int .i64 (x33.id), .int .i64 (x33.pc)] 32 (0, 0))] := H229.absorbI (new := [Y282.I, Old w no]) [2, 1] H286
                            refine b_ret rfl rfl ?_
                            refine l_of (s_val (v := .tuple #[.int .i64 ((nextV A x33.id)), .int .i64 ((nextE A x33.id))]) (wt0 rfl) rfl rfl (x_move rfl rfl) ?_)
                            refine l_of (s_val (v := .int .i64 ((nextV A x33.id))) (wt0 rfl) rfl rfl (x_extract rfl rfl rfl) ?_)
                            refine l_of (s_val (v := .int .i64 ((nextE A x33.id))) (wt0 rfl) rfl rfl (x_extract rfl rfl rfl) ?_)
                            refine l_of (s_val (v := .int .i64 ((nextV A x33.id))) (wt0 rfl) rfl rfl (x_assign rfl rfl) ?_)
                            refine l_of (s_val (v := .int .i64 ((nextE A x33.id))) (wt0 rfl) rfl rfl (x_assign rfl rfl) ?_)
                            refine g_nil ?_
                            refine g_then ?_
                            refine g_region ?_
                            refine l_of (s_val (v := .int .i64 ((nextV A x33.id))) (wt0 rfl) rfl rfl (x_move rfl rfl) ?_)
                            refine l_of (s_val (v := .int .i64 ((nextV A x33.id))) (wt0 rfl) rfl rfl (x_move rfl rfl) ?_)
                            refine l_of (s_val (v := .bool (decide (((nextV A x33.id) : Int) = (nextV A x33.id)))) (wt0 rfl) rfl rfl (x_bin rfl rfl rfl b_eql) ?_)
                            refine l_of (s_val (v := .bool (decide (((nextV A x33.id) : Int) = (nextV A x33.id)))) (wt0 rfl) rfl rfl (x_move rfl rfl) ?_)
                            refine l_of (s_val (v := .int .i64 ((nextE A x33.id))) (wt1 rfl rfl rfl rfl (decide_eq_true rfl)) rfl rfl (x_move rfl rfl) ?_)
                            refine l_of (s_val (v := .int .i64 ((nextE A x33.id))) (wt1 rfl rfl rfl rfl (decide_eq_true rfl)) rfl rfl (x_move rfl rfl) ?_)
                            refine l_of (s_val (v := .bool (decide (((nextE A x33.id) : Int) = (nextE A x33.id)))) (wt1 rfl rfl rfl rfl (decide_eq_true rfl)) rfl rfl (x_bin rfl rfl rfl b_eql) ?_)
                            refine l_of (s_val (v := .bool (decide (((nextE A x33.id) : Int) = (nextE A x33.id)))) (wt0 rfl) rfl rfl (x_pick_t rfl rfl (decide_eq_true rfl) rfl) ?_)
                            refine l_of (s_val (v := .bool (decide (((nextE A x33.id) : Int) = (nextE A x33.id)))) (wt0 rfl) rfl rfl (x_move rfl rfl) ?_)
                            refine l_of (s_val (v := .int .i64 ((nextE A x33.id))) (wt1 rfl rfl rfl rfl (decide_eq_true rfl)) rfl rfl (x_move rfl rfl) ?_)
                            refine l_of (s_val (v := .bool (!decide (((nextE A x33.id) : Int) = 0))) (wt1 rfl rfl rfl rfl (decide_eq_true rfl)) rfl rfl (x_bin rfl rfl rfl b_neq) ?_)
                            refine l_of (s_val (v := .bool (!decide (((nextE A x33.id) : Int) = 0))) (wt1 rfl rfl rfl rfl (decide_eq_true rfl)) rfl rfl (x_move rfl rfl) ?_)
                            refine l_of (s_not (wn1 rfl rfl rfl rfl (nt hb230)) rfl rfl ?_)
                            refine l_of (s_not (wn1 rfl rfl rfl rfl (nt hb230)) rfl rfl ?_)
                            refine l_of (s_val (v := .bool true) (wt1 rfl rfl rfl rfl (decide_eq_true rfl)) rfl rfl (x_pick_t rfl rfl (nt hb230) rfl) ?_)
                            refine l_of (s_val (v := .bool true) (wt1 rfl rfl rfl rfl (decide_eq_true rfl)) rfl rfl (x_move rfl rfl) ?_)
                            refine l_of (s_not (wn1 rfl rfl rfl rfl rfl) rfl rfl ?_)
                            refine l_of (s_not (wn1 rfl rfl rfl rfl rfl) rfl rfl ?_)
                            refine l_of (s_val (v := .bool true) (wt1 rfl rfl rfl rfl (decide_eq_true rfl)) rfl rfl (x_pick_t rfl rfl rfl rfl) ?_)
                            refine l_of (s_val (v := .bool true) (wt0 rfl) rfl rfl (x_pick_t rfl rfl (decide_eq_true rfl) rfl) ?_)
                            refine l_of (s_val (v := .bool true) (wt0 rfl) rfl rfl (x_assign rfl rfl) ?_)
                            refine g_nil ?_
                            refine g_in ?_
                            refine g_then ?_
                            refine g_weak [(1, .int .i64 pc), (7, .pointer (some ⟨Y10.g, 0, none⟩)), (9, .pointer (some ⟨Y24.h, 0, none⟩)), (12, .pointer (some ⟨g34, 0, none⟩)), (13, .bool true), (78, .slice p n c), (79, .int .i64 ((n : Int))), (80, .int .i64 ((j9 : Int)))] ⟨rfl, rfl, rfl, rfl, rfl, rfl, rfl, rfl, trivial⟩ ?_
                            refine g_seq ?_
                            refine g_region ?_
                            have hPJ2 := (hPJ.next (id := x33.id))
                            refine l_of (s_val (v := .pointer (some ⟨Y10.g, 0, none⟩)) (wt0 rfl) rfl rfl (x_move rfl rfl) ?_)
                            refine l_of (s_val (v := .pointer (some ⟨g34, 1, none⟩)) (wt0 rfl) rfl rfl (x_fieldAddr rfl rfl fo32_1 rfl) ?_)
                            refine l_of (s_val (v := .int .i64 (x33.id)) (wt0 rfl) rfl rfl (x_load1 H286 3 rfl rfl Tryd.underlying3 rfl rfl rfl) ?_)
                            refine l_of (s_call (wt0 rfl) (x_call' rfl rfl cl18) (told_gx (id := x33.id) hPJ2 (by omega) hYg226 hYA227 (hok _ (List.mem_of_getElem? hx33)).1 _ (H286.takes [2] (by decide))) ?_)
                            rintro _ wq290 ⟨pt287, ct288, rfl, H291⟩
                            replace H291 : S wq290 [Rw 3 1 pt287 ((toldV (nextA A x33.id) x33.id).length) ct288 (fl intL (toldV (nextA A x33.id) x33.id)), Y225.I, Y282.I, Old w no, Ob g34 (.cells #[.int .i64 (x33.kind), .int .i64 (x33.id), .int .i64 (x33.pc)] 32 (0, 0))] := H286.absorbI (new := [Rw 3 1 pt287 ((toldV (nextA A x33.id) x33.id).length) ct288 (fl intL (toldV (nextA A x33.id) x33.id)), Y225.I]) [2] H291
                            have hl289 := toldV_len hPJ2 x33.id
                            refine b_ret rfl rfl ?_
                            refine l_of (s_val (v := .tuple #[.slice pt287 ((toldV (nextA A x33.id) x33.id).length) ct288, .int .i64 ((findE (nextA A x33.id) x33.id))]) (wt0 rfl) rfl rfl (x_move rfl rfl) ?_)
                            refine l_of (s_val (v := .slice pt287 ((toldV (nextA A x33.id) x33.id).length) ct288) (wt0 rfl) rfl rfl (x_extract rfl rfl rfl) ?_)
                            refine l_of (s_val (v := .int .i64 ((findE (nextA A x33.id) x33.id))) (wt0 rfl) rfl rfl (x_extract rfl rfl rfl) ?_)
                            refine l_of (s_val (v := .slice pt287 ((toldV (nextA A x33.id) x33.id).length) ct288) (wt0 rfl) rfl rfl (x_assign rfl rfl) ?_)
                            refine l_of (s_val (v := .int .i64 ((findE (nextA A x33.id) x33.id))) (wt0 rfl) rfl rfl (x_assign rfl rfl) ?_)
                            refine g_nil ?_
                            refine g_then ?_
                            refine g_seq ?_
                            refine g_region ?_
                            refine l_of (s_val (v := .pointer (some ⟨Y24.h, 0, none⟩)) (wt0 rfl) rfl rfl (x_move rfl rfl) ?_)
                            refine l_of (s_val (v := .pointer (some ⟨g34, 1, none⟩)) (wt0 rfl) rfl rfl (x_fieldAddr rfl rfl fo32_1 rfl) ?_)
                            refine l_of (s_val (v := .int .i64 (x33.id)) (wt0 rfl) rfl rfl (x_load1 H291 4 rfl rfl Tryd.underlying3 rfl rfl rfl) ?_)
                            refine l_of (s_call (wt0 rfl) (x_call' rfl rfl cl13) (told_gr (id := x33.id) hPJ2 (by omega) hYg283 hYA284 _ (H291.takes [2] (by decide))) ?_)
                            rintro _ wq296 ⟨pt292, ct293, rfl, hT295, H297⟩
                            replace H297 : S wq296 [Y282.I, Rw 3 1 pt287 ((toldV (nextA A x33.id) x33.id).length) ct288 (fl intL (toldV (nextA A x33.id) x33.id)), Y225.I, Old w no, Ob g34 (.cells #[.int .i64 (x33.kind), .int .i64 (x33.id), .int .i64 (x33.pc)] 32 (0, 0))] := H291.absorbI (new := [Y282.I]) [2] H297
                            have hl294 := toldV_len hPJ2 x33.id
                            refine b_ret rfl rfl ?_
                            refine l_of (s_val (v := .tuple #[.slice pt292 ((toldV (nextA A x33.id) x33.id).length) ct293, .int .i64 ((findE (nextA A x33.id) x33.id))]) (wt0 rfl) rfl rfl (x_move rfl rfl) ?_)
                            refine l_of (s_val (v := .slice pt292 ((toldV (nextA A x33.id) x33.id).length) ct293) (wt0 rfl) rfl rfl (x_extract rfl rfl rfl) ?_)
                            refine l_of (s_val (v := .int .i64 ((findE (nextA A x33.id) x33.id))) (wt0 rfl) rfl rfl (x_extract rfl rfl rfl) ?_)
                            refine l_of (s_val (v := .slice pt292 ((toldV (nextA A x33.id) x33.id).length) ct293) (wt0 rfl) rfl rfl (x_assign rfl rfl) ?_)
                            refine l_of (s_val (v := .int .i64 ((findE (nextA A x33.id) x33.id))) (wt0 rfl) rfl rfl (x_assign rfl rfl) ?_)
                            refine g_nil ?_
                            refine g_then ?_
                            refine g_weak [(1, .int .i64 pc), (7, .pointer (some ⟨Y10.g, 0, none⟩)), (9, .pointer (some ⟨Y24.h, 0, none⟩)), (12, .pointer (some ⟨g34, 0, none⟩)), (13, .bool true), (26, .slice pt287 ((toldV (nextA A x33.id) x33.id).length) ct288), (27, .int .i64 ((findE (nextA A x33.id) x33.id))), (28, .slice pt292 ((toldV (nextA A x33.id) x33.id).length) ct293), (29, .int .i64 ((findE (nextA A x33.id) x33.id))), (78, .slice p n c), (79, .int .i64 ((n : Int))), (80, .int .i64 ((j9 : Int)))] ⟨rfl, rfl, rfl, rfl, rfl, rfl, rfl, rfl, rfl, rfl, rfl, rfl, trivial⟩ ?_
                            refine g_seq ?_
                            refine g_region ?_
                            refine l_of (s_val (v := .pointer (some ⟨Y10.g, 0, none⟩)) (wt0 rfl) rfl rfl (x_move rfl rfl) ?_)
                            refine l_of (s_val (v := .pointer (some ⟨g34, 2, none⟩)) (wt0 rfl) rfl rfl (x_fieldAddr rfl rfl fo32_2 rfl) ?_)
                            refine l_of (s_val (v := .int .i64 (x33.pc)) (wt0 rfl) rfl rfl (x_load1 H297 4 rfl rfl Tryd.underlying3 rfl rfl rfl) ?_)
                            refine l_of (s_call (wt0 rfl) (x_call' rfl rfl cl19) (count_gx (k := x33.pc) hPJ2 (by omega) hYg226 hYA227 _ (H297.takes [2] (by decide))) ?_)
                            rintro _ wq298 ⟨rfl, H299⟩
                            replace H299 : S wq298 [Y225.I, Y282.I, Rw 3 1 pt287 ((toldV (nextA A x33.id) x33.id).length) ct288 (fl intL (toldV (nextA A x33.id) x33.id)), Old w no, Ob g34 (.cells #[.int .i64 (x33.kind), .int .i64 (x33.id), .int .i64 (x33.pc)] 32 (0, 0))] := H297.absorbI (new := [Y225.I]) [2] H299
                            refine b_ret rfl rfl ?_
                            refine l_of (s_val (v := .tuple #[.int .i64 ((countT (nextA A x33.id) x33.pc)), .int .i64 ((countH (nextA A x33.id) x33.pc)), .int .i64 ((countE (nextA A x33.id) x33.pc))]) (wt0 rfl) rfl rfl (x_move rfl rfl) ?_)
                            refine l_of (s_val (v := .int .i64 ((countT (nextA A x33.id) x33.pc))) (wt0 rfl) rfl rfl (x_extract rfl rfl rfl) ?_)
                            refine l_of (s_val (v := .int .i64 ((countH (nextA A x33.id) x33.pc))) (wt0 rfl) rfl rfl (x_extract rfl rfl rfl) ?_)
                            refine l_of (s_val (v := .int .i64 ((countE (nextA A x33.id) x33.pc))) (wt0 rfl) rfl rfl (x_extract rfl rfl rfl) ?_)
                            refine l_of (s_val (v := .int .i64 ((countT (nextA A x33.id) x33.pc))) (wt0 rfl) rfl rfl (x_assign rfl rfl) ?_)
                            refine l_of (s_val (v := .int .i64 ((countH (nextA A x33.id) x33.pc))) (wt0 rfl) rfl rfl (x_assign rfl rfl) ?_)
                            refine l_of (s_val (v := .int .i64 ((countE (nextA A x33.id) x33.pc))) (wt0 rfl) rfl rfl (x_assign rfl rfl) ?_)
                            refine g_nil ?_
                            refine g_then ?_
                            refine g_seq ?_
                            refine g_region ?_
                            refine l_of (s_val (v := .pointer (some ⟨Y24.h, 0, none⟩)) (wt0 rfl) rfl rfl (x_move rfl rfl) ?_)
                            refine l_of (s_val (v := .pointer (some ⟨g34, 2, none⟩)) (wt0 rfl) rfl rfl (x_fieldAddr rfl rfl fo32_2 rfl) ?_)
                            refine l_of (s_val (v := .int .i64 (x33.pc)) (wt0 rfl) rfl rfl (x_load1 H299 4 rfl rfl Tryd.underlying3 rfl rfl rfl) ?_)
                            refine l_of (s_call (wt0 rfl) (x_call' rfl rfl cl14) (count_gr (k := x33.pc) hPJ2 (by omega) hYg283 hYA284 _ (H299.takes [1] (by decide))) ?_)
                            rintro _ wq300 ⟨rfl, H301⟩
                            replace H301 : S wq300 [Y282.I, Y225.I, Rw 3 1 pt287 ((toldV (nextA A x33.id) x33.id).length) ct288 (fl intL (toldV (nextA A x33.id) x33.id)), Old w no, Ob g34 (.cells #[.int .i64 (x33.kind), .int .i64 (x33.id), .int .i64 (x33.pc)] 32 (0, 0))] := H299.absorbI (new := [Y282.I]) [1] H301
                            refine b_ret rfl rfl ?_
                            refine l_of (s_val (v := .tuple #[.int .i64 ((countT (nextA A x33.id) x33.pc)), .int .i64 ((countH (nextA A x33.id) x33.pc)), .int .i64 ((countE (nextA A x33.id) x33.pc))]) (wt0 rfl) rfl rfl (x_move rfl rfl) ?_)
                            refine l_of (s_val (v := .int .i64 ((countT (nextA A x33.id) x33.pc))) (wt0 rfl) rfl rfl (x_extract rfl rfl rfl) ?_)
                            refine l_of (s_val (v := .int .i64 ((countH (nextA A x33.id) x33.pc))) (wt0 rfl) rfl rfl (x_extract rfl rfl rfl) ?_)
                            refine l_of (s_val (v := .int .i64 ((countE (nextA A x33.id) x33.pc))) (wt0 rfl) rfl rfl (x_extract rfl rfl rfl) ?_)
                            refine l_of (s_val (v := .int .i64 ((countT (nextA A x33.id) x33.pc))) (wt0 rfl) rfl rfl (x_assign rfl rfl) ?_)
                            refine l_of (s_val (v := .int .i64 ((countH (nextA A x33.id) x33.pc))) (wt0 rfl) rfl rfl (x_assign rfl rfl) ?_)
                            refine l_of (s_val (v := .int .i64 ((countE (nextA A x33.id) x33.pc))) (wt0 rfl) rfl rfl (x_assign rfl rfl) ?_)
                            refine g_nil ?_
                            refine g_then ?_
                            refine g_weak [(1, .int .i64 pc), (7, .pointer (some ⟨Y10.g, 0, none⟩)), (9, .pointer (some ⟨Y24.h, 0, none⟩)), (13, .bool true), (26, .slice pt287 ((toldV (nextA A x33.id) x33.id).length) ct288), (27, .int .i64 ((findE (nextA A x33.id) x33.id))), (28, .slice pt292 ((toldV (nextA A x33.id) x33.id).length) ct293), (29, .int .i64 ((findE (nextA A x33.id) x33.id))), (30, .int .i64 ((countT (nextA A x33.id) x33.pc))), (31, .int .i64 ((countH (nextA A x33.id) x33.pc))), (32, .int .i64 ((countE (nextA A x33.id) x33.pc))), (33, .int .i64 ((countT (nextA A x33.id) x33.pc))), (34, .int .i64 ((countH (nextA A x33.id) x33.pc))), (35, .int .i64 ((countE (nextA A x33.id) x33.pc))), (78, .slice p n c), (79, .int .i64 ((n : Int))), (80, .int .i64 ((j9 : Int)))] ⟨rfl, rfl, rfl, rfl, rfl, rfl, rfl, rfl, rfl, rfl, rfl, rfl, rfl, rfl, rfl, rfl, rfl, trivial⟩ ?_
                            refine g_seq ?_
                            refine g_region ?_
                            refine l_of (s_val (v := .bool true) (wt0 rfl) rfl rfl (x_move rfl rfl) ?_)
                            refine l_of (s_val (v := .bool false) (wt0 rfl) rfl rfl (x_not (b := true) rfl rfl) ?_)
                            refine l_of (s_val (v := .bool false) (wt0 rfl) rfl rfl (x_move rfl rfl) ?_)
                            refine l_of (s_val (v := .slice pt287 ((toldV (nextA A x33.id) x33.id).length) ct288) (wt1 rfl rfl rfl rfl rfl) rfl rfl (x_move rfl rfl) ?_)
                            refine l_of (s_val (v := .slice pt292 ((toldV (nextA A x33.id) x33.id).length) ct293) (wt1 rfl rfl rfl rfl rfl) rfl rfl (x_move rfl rfl) ?_)
                            refine l_of (s_call (wt1 rfl rfl rfl rfl rfl) (x_call' rfl rfl cl20) (same_i (toldV (nextA A x33.id) x33.id) (by omega) pt287 ((toldV (nextA A x33.id) x33.id).length) ct288 pt292 ((toldV (nextA A x33.id) x33.id).length) ct293 _ (H301.rwReads (k := 2) rfl) ((hT295 _ (H301.takes [0] (by decide))))) ?_)
                            rintro _ wq302 ⟨rfl, H303⟩
                            replace H303 : S wq302 [Y282.I, Y225.I, Rw 3 1 pt287 ((toldV (nextA A x33.id) x33.id).length) ct288 (fl intL (toldV (nextA A x33.id) x33.id)), Old w no, Ob g34 (.cells #[.int .i64 (x33.kind), .int .i64 (x33.id), .int .i64 (x33.pc)] 32 (0, 0))] := H301.absorb (new := []) H303
                            refine b_ret rfl rfl ?_
                            refine l_of (s_val (v := .bool false) (wt1 rfl rfl rfl rfl rfl) rfl rfl (x_not (b := true) rfl rfl) ?_)
                            refine l_of (s_val (v := .bool false) (wt0 rfl) rfl rfl (x_pick_f rfl rfl rfl rfl) ?_)
                            refine l_of (s_val (v := .bool false) (wt0 rfl) rfl rfl (x_move rfl rfl) ?_)
                            refine l_of (s_val (v := .int .i64 ((findE (nextA A x33.id) x33.id))) (wt1 rfl rfl rfl rfl rfl) rfl rfl (x_move rfl rfl) ?_)
                            refine l_of (s_val (v := .int .i64 ((findE (nextA A x33.id) x33.id))) (wt1 rfl rfl rfl rfl rfl) rfl rfl (x_move rfl rfl) ?_)
                            refine l_of (s_val (v := .bool (!decide (((findE (nextA A x33.id) x33.id) : Int) = (findE (nextA A x33.id) x33.id)))) (wt1 rfl rfl rfl rfl rfl) rfl rfl (x_bin rfl rfl rfl b_neq) ?_)
                            refine l_of (s_val (v := .bool (!decide (((findE (nextA A x33.id) x33.id) : Int) = (findE (nextA A x33.id) x33.id)))) (wt0 rfl) rfl rfl (x_pick_f rfl rfl rfl rfl) ?_)
                            refine l_of (s_val (v := .bool (!decide (((findE (nextA A x33.id) x33.id) : Int) = (findE (nextA A x33.id) x33.id)))) (wt0 rfl) rfl rfl (x_move rfl rfl) ?_)
                            refine l_of (s_val (v := .int .i64 ((countT (nextA A x33.id) x33.pc))) (wt1 rfl rfl rfl rfl (nf rfl)) rfl rfl (x_move rfl rfl) ?_)
                            refine l_of (s_val (v := .int .i64 ((countT (nextA A x33.id) x33.pc))) (wt1 rfl rfl rfl rfl (nf rfl)) rfl rfl (x_move rfl rfl) ?_)
                            refine l_of (s_val (v := .bool (!decide (((countT (nextA A x33.id) x33.pc) : Int) = (countT (nextA A x33.id) x33.pc)))) (wt1 rfl rfl rfl rfl (nf rfl)) rfl rfl (x_bin rfl rfl rfl b_neq) ?_)
                            refine l_of (s_val (v := .bool (!decide (((countT (nextA A x33.id) x33.pc) : Int) = (countT (nextA A x33.id) x33.pc)))) (wt0 rfl) rfl rfl (x_pick_f rfl rfl (nf rfl) rfl) ?_)
                            refine l_of (s_val (v := .bool (!decide (((countT (nextA A x33.id) x33.pc) : Int) = (countT (nextA A x33.id) x33.pc)))) (wt0 rfl) rfl rfl (x_move rfl rfl) ?_)
                            refine l_of (s_val (v := .int .i64 ((countH (nextA A x33.id) x33.pc))) (wt1 rfl rfl rfl rfl (nf rfl)) rfl rfl (x_move rfl rfl) ?_)
                            refine l_of (s_val (v := .int .i64 ((countH (nextA A x33.id) x33.pc))) (wt1 rfl rfl rfl rfl (nf rfl)) rfl rfl (x_move rfl rfl) ?_)
                            refine l_of (s_val (v := .bool (!decide (((countH (nextA A x33.id) x33.pc) : Int) = (countH (nextA A x33.id) x33.pc)))) (wt1 rfl rfl rfl rfl (nf rfl)) rfl rfl (x_bin rfl rfl rfl b_neq) ?_)
                            refine l_of (s_val (v := .bool (!decide (((countH (nextA A x33.id) x33.pc) : Int) = (countH (nextA A x33.id) x33.pc)))) (wt0 rfl) rfl rfl (x_pick_f rfl rfl (nf rfl) rfl) ?_)
                            refine l_of (s_val (v := .bool (!decide (((countH (nextA A x33.id) x33.pc) : Int) = (countH (nextA A x33.id) x33.pc)))) (wt0 rfl) rfl rfl (x_move rfl rfl) ?_)
                            refine l_of (s_val (v := .int .i64 ((countE (nextA A x33.id) x33.pc))) (wt1 rfl rfl rfl rfl (nf rfl)) rfl rfl (x_move rfl rfl) ?_)
                            refine l_of (s_val (v := .int .i64 ((countE (nextA A x33.id) x33.pc))) (wt1 rfl rfl rfl rfl (nf rfl)) rfl rfl (x_move rfl rfl) ?_)
                            refine l_of (s_val (v := .bool (!decide (((countE (nextA A x33.id) x33.pc) : Int) = (countE (nextA A x33.id) x33.pc)))) (wt1 rfl rfl rfl rfl (nf rfl)) rfl rfl (x_bin rfl rfl rfl b_neq) ?_)
                            refine l_of (s_val (v := .bool (!decide (((countE (nextA A x33.id) x33.pc) : Int) = (countE (nextA A x33.id) x33.pc)))) (wt0 rfl) rfl rfl (x_pick_f rfl rfl (nf rfl) rfl) ?_)
                            refine l_of (s_val (v := .bool (!decide (((countE (nextA A x33.id) x33.pc) : Int) = (countE (nextA A x33.id) x33.pc)))) (wt0 rfl) rfl rfl (x_move rfl rfl) ?_)
                            refine l_of (s_val (v := .pointer (some ⟨Y10.g, 0, none⟩)) (wt1 rfl rfl rfl rfl (nf rfl)) rfl rfl (x_move rfl rfl) ?_)
                            refine l_of (s_call (wt1 rfl rfl rfl rfl (nf rfl)) (x_call' rfl rfl cl21) (whole_gx hPJ2 (by omega) hYg226 hYA227 _ (H303.takes [1] (by decide))) ?_)
                            rintro _ wq304 ⟨rfl, H305⟩
                            replace H305 : S wq304 [Y225.I, Y282.I, Rw 3 1 pt287 ((toldV (nextA A x33.id) x33.id).length) ct288 (fl intL (toldV (nextA A x33.id) x33.id)), Old w no, Ob g34 (.cells #[.int .i64 (x33.kind), .int .i64 (x33.id), .int .i64 (x33.pc)] 32 (0, 0))] := H303.absorbI (new := [Y225.I]) [1] H305
                            refine b_ret rfl rfl ?_
                            refine l_of (s_val (v := .pointer (some ⟨Y24.h, 0, none⟩)) (wt1 rfl rfl rfl rfl (nf rfl)) rfl rfl (x_move rfl rfl) ?_)
                            refine l_of (s_call (wt1 rfl rfl rfl rfl (nf rfl)) (x_call' rfl rfl cl22) (whole_gr hPJ2 (by omega) hYg283 hYA284 _ (H305.takes [1] (by decide))) ?_)
                            rintro _ wq306 ⟨rfl, H307⟩
                            replace H307 : S wq306 [Y282.I, Y225.I, Rw 3 1 pt287 ((toldV (nextA A x33.id) x33.id).length) ct288 (fl intL (toldV (nextA A x33.id) x33.id)), Old w no, Ob g34 (.cells #[.int .i64 (x33.kind), .int .i64 (x33.id), .int .i64 (x33.pc)] 32 (0, 0))] := H305.absorbI (new := [Y282.I]) [1] H307
                            refine b_ret rfl rfl ?_
                            refine l_of (s_val (v := .bool (!(((wholeB (nextA A x33.id))) == ((wholeB (nextA A x33.id)))))) (wt1 rfl rfl rfl rfl (nf rfl)) rfl rfl (x_bin rfl rfl rfl (b_neN Tryd.underlying4 rfl)) ?_)
                            refine l_of (s_val (v := .bool (!(((wholeB (nextA A x33.id))) == ((wholeB (nextA A x33.id)))))) (wt0 rfl) rfl rfl (x_pick_f rfl rfl (nf rfl) rfl) ?_)
                            refine g_nil ?_
                            refine g_then ?_
                            refine g_weak [(1, .int .i64 pc), (7, .pointer (some ⟨Y10.g, 0, none⟩)), (9, .pointer (some ⟨Y24.h, 0, none⟩)), (78, .slice p n c), (79, .int .i64 ((n : Int))), (80, .int .i64 ((j9 : Int))), (266, .bool (!(((wholeB (nextA A x33.id))) == ((wholeB (nextA A x33.id))))))] ⟨rfl, rfl, rfl, rfl, rfl, rfl, rfl, trivial⟩ ?_
                            refine g_cond_f rfl (neg_of (beq_self_eq_true ((wholeB (nextA A x33.id))))) ?_
                            refine g_skip ?_
                            refine g_in ?_
                            refine g_then ?_
                            refine g_region ?_
                            refine l_of (s_val (v := .int .i64 (((j9 + 1 : Nat) : Int))) (wt0 rfl) rfl rfl (x_bin rfl rfl rfl (b_add (by rw [w64 (by omega)]; omega))) ?_)
                            refine l_of (s_val (v := .int .i64 (((j9 + 1 : Nat) : Int))) (wt0 rfl) rfl rfl (x_move rfl rfl) ?_)
                            refine g_nil ?_
                            refine g_then ?_
                            refine g_round (i := (j9, X, Z, A)) ((j9 + 1), Y225, Y282, (nextA A x33.id)) ?_ ?_ ?_
                            · exact ⟨rfl, rfl, rfl, rfl, rfl, rfl, trivial⟩
                            · exact ⟨by omega, (hPJ.next (id := x33.id)), hYg226, hYA227, hYg283, hYA284, ((next_n).trans hAn), (H307.takes [1, 0, 3] (by decide))⟩
                            · (try dsimp only); omega
            · skip
              refine g_cond_f rfl (decide_eq_false hb32) ?_
              refine g_exit ?_
              refine g_then_exit ?_
              refine g_then_exit ?_
              refine g_in_hit ?_
              refine g_then ?_
              refine g_seq ?_
              refine g_region ?_
              refine l_of (s_call (wt0 rfl) (x_call' rfl rfl cl4) (awake_s _) ?_)
              rintro _ wq308 ⟨rfl, H309⟩
              replace H309 : S wq308 [X.I, Z.I, Old w no] := H31.absorb (new := []) H309
              refine b_ret rfl rfl ?_
              refine l_of (s_val (v := .bool true) (wt0 rfl) rfl rfl (x_assign rfl rfl) ?_)
              refine g_nil ?_
              refine g_then ?_
              refine g_ret ?_
              refine fin_ret [.tmp 6] [.bool true] rfl ⟨rfl, trivial⟩ ?_
              exact ⟨rfl, H309.mask [false, false, true]⟩
end Go.Proofs.YthfglkkjkpdkpaaDoor
