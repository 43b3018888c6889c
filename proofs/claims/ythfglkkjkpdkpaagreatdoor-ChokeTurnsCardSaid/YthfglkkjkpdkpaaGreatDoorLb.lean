import Derived.Test.YthfglkkjkpdkpaaGreatDoorLa
set_option linter.unusedSimpArgs false
set_option linter.unusedVariables false
namespace Go.Proofs.YthfglkkjkpdkpaaGreatDoor
open Go.RowKit

theorem cl18 : callable Tryz.prog 18 = true := by kernel_rfl
theorem cl19 : callable Tryz.prog 19 = true := by kernel_rfl
theorem cl31 : callable Tryz.prog 31 = true := by kernel_rfl
theorem cl32 : callable Tryz.prog 32 = true := by kernel_rfl
theorem cl62 : callable Tryz.prog 62 = true := by kernel_rfl
theorem sz58 : szO Tryz.prog 58 = some 1 := by kernel_rfl
noncomputable def ids3 (l : List Rv) (slots : Int) : List Int := sortI (((sorted3 l).take (min (sorted3 l).length slots.toNat)).map Rv.id)
theorem sorted3_len (l : List Rv) : (sorted3 l).length ≤ l.length := by
  unfold sorted3; rw [srt_len]; exact List.length_filter_le _ _
set_option maxRecDepth 20000 in
set_option maxHeartbeats 4000000 in
set_option maxRecDepth 20000 in
set_option maxHeartbeats 4000000 in
theorem decided3_s (round slots : Int) (seed : ByteArray) (l : List Rv) (p : Option Addr) (n c : Nat) (hn2 : n ≤ 1000000) (hval : ∀ x ∈ l, validR x = true)  (w : World) (hr : Reads w p n c 10 (fl rvL l)) : Calls Tryz.prog 19 #[.int .i64 3, .int .i64 round, .int .i64 slots, .string seed, .slice p n c] w fun e w' => ∃ p' c', e = .returned (.slice p' (ids3 l slots).length c') ∧ S w' ([Rw 3 1 p' (ids3 l slots).length c' (fl intL (ids3 l slots))] ++ [Old w no]) := by
  have H0 := S.old w
  have hnl := hr.lenL rvE
  refine enter 22 Tryz.func19 rfl rfl rfl ?_
  refine g_weak [(0, .int .i64 3), (1, .int .i64 round), (2, .int .i64 slots), (3, .string seed), (4, .slice p n c)] ⟨rfl, rfl, rfl, rfl, rfl, trivial⟩ ?_
  refine g_seq ?_
  refine g_region ?_
  refine l_of (s_val (v := .slice none 0 0) (wt0 rfl) rfl rfl (x_assign rfl rfl) ?_)
  refine g_nil ?_
  refine g_then ?_
  refine g_seq ?_
  refine g_region ?_
  refine l_of (s_call (wt0 rfl) (x_call' rfl rfl cl32) (ways_s _) ?_)
  rintro _ wq1 ⟨rfl, H2⟩
  replace H2 : S wq1 [Old w no] := H0.absorb (new := []) H2
  refine b_ret rfl rfl ?_
  refine l_of (s_val (v := .int .i64 3) (wt0 rfl) rfl rfl (x_move rfl rfl) ?_)
  refine l_of (s_val (v := .int .i64 2) (wt0 rfl) rfl rfl (x_bin rfl rfl rfl (b_sub (r := 2) (by decide))) ?_)
  refine l_of (s_val (v := .func (.func 62) #[] #[]) (wt0 rfl) rfl rfl (x_indexW 2 rfl rfl rfl Tryz.underlying59 sz58 Tryz.underlying58 rfl ⟨by decide, by decide⟩ rfl) ?_)
  refine l_of (s_val (v := .int .i64 round) (wt0 rfl) rfl rfl (x_move rfl rfl) ?_)
  refine l_of (s_val (v := .int .i64 slots) (wt0 rfl) rfl rfl (x_move rfl rfl) ?_)
  refine l_of (s_val (v := .string seed) (wt0 rfl) rfl rfl (x_move rfl rfl) ?_)
  refine l_of (s_val (v := .slice p n c) (wt0 rfl) rfl rfl (x_move rfl rfl) ?_)
  refine l_of (s_val (v := .agg #[.int .i64 round, .int .i64 slots, .string seed, .slice p n c]) (wt0 rfl) rfl rfl (x_build (vs := [.int .i64 round, .int .i64 slots, .string seed, .slice p n c]) rfl rfl (cells := #[.int .i64 round, .int .i64 slots, .string seed, .slice p n c]) (by kernel_rfl)) ?_)
  refine l_of (s_call (wt0 rfl) (x_call rfl rfl rfl cl62) (way3_s round slots seed l p n c (by omega) hval _ (H2.exReads (k := 0) rfl hr (fun _ _ _ h => h))) ?_)
  rintro _ wq5 ⟨pw3, cw4, rfl, H6⟩
  replace H6 : S wq5 [Rw 30 10 pw3 ((sorted3 l).length) cw4 (fl rvL (sorted3 l)), Old w no] := H2.absorb (new := [Rw 30 10 pw3 ((sorted3 l).length) cw4 (fl rvL (sorted3 l))]) H6
  refine b_ret rfl rfl ?_
  refine l_of (s_call (wt0 rfl) (x_call' rfl rfl cl31) (ids_s ((sorted3 l).take (min (sorted3 l).length slots.toNat)) pw3 (min (sorted3 l).length slots.toNat) cw4 (by have := sorted3_len l; omega) _ ((H6.rwReads (k := 0) rfl).takeL rvE (min (sorted3 l).length slots.toNat) (Nat.min_le_left _ _))) ?_)
  rintro _ wq9 ⟨p7, c8, rfl, H10⟩
  replace H10 : S wq9 [Rw 3 1 p7 ((sortI (((sorted3 l).take (min (sorted3 l).length slots.toNat)).map Rv.id)).length) c8 (fl intL (sortI (((sorted3 l).take (min (sorted3 l).length slots.toNat)).map Rv.id))), Rw 30 10 pw3 ((sorted3 l).length) cw4 (fl rvL (sorted3 l)), Old w no] := H6.absorb (new := [Rw 3 1 p7 ((sortI (((sorted3 l).take (min (sorted3 l).length slots.toNat)).map Rv.id)).length) c8 (fl intL (sortI (((sorted3 l).take (min (sorted3 l).length slots.toNat)).map Rv.id)))]) H10
  refine b_ret rfl rfl ?_
  refine l_of (s_val (v := .slice p7 ((sortI (((sorted3 l).take (min (sorted3 l).length slots.toNat)).map Rv.id)).length) c8) (wt0 rfl) rfl rfl (x_assign rfl rfl) ?_)
  refine g_nil ?_
  refine g_then ?_
  refine g_weak [(10, .slice p7 ((sortI (((sorted3 l).take (min (sorted3 l).length slots.toNat)).map Rv.id)).length) c8)] ⟨rfl, trivial⟩ ?_
  refine g_ret ?_
  refine fin_ret [.tmp 10] [.slice p7 ((sortI (((sorted3 l).take (min (sorted3 l).length slots.toNat)).map Rv.id)).length) c8] rfl ⟨rfl, trivial⟩ ?_
  exact ⟨_, _, rfl, H10.takes [0, 2] (by decide)⟩
set_option maxRecDepth 20000 in
set_option maxHeartbeats 4000000 in
set_option maxRecDepth 20000 in
set_option maxHeartbeats 4000000 in
theorem round3_s (round slots : Int) (seed : ByteArray) (l : List Rv) (p : Option Addr) (n c : Nat) (hn2 : n ≤ 1000000) (hask : askE seed l = 0) (hrd : 0 ≤ round) (hsl : 0 ≤ slots ∧ slots ≤ 100)  (w : World) (hr : Reads w p n c 10 (fl rvL l)) : Calls Tryz.prog 7 #[.int .i64 3, .int .i64 round, .int .i64 slots, .string seed, .slice p n c] w fun e w' => ∃ p' c', e = .returned (.tuple #[.slice p' (ids3 l slots).length c', .int .i64 0]) ∧ S w' ([Rw 3 1 p' (ids3 l slots).length c' (fl intL (ids3 l slots))] ++ [Old w no]) := by
  have H0 := S.old w
  have hnl := hr.lenL rvE
  have hval := (askE_ok hask).2.1
  refine enter 43 Tryz.func7 rfl rfl rfl ?_
  refine g_weak [(0, .int .i64 3), (1, .int .i64 round), (2, .int .i64 slots), (3, .string seed), (4, .slice p n c)] ⟨rfl, rfl, rfl, rfl, rfl, trivial⟩ ?_
  refine g_seq ?_
  refine g_region ?_
  refine l_of (s_val (v := .slice none 0 0) (wt0 rfl) rfl rfl (x_assign rfl rfl) ?_)
  refine l_of (s_val (v := .int .i64 0) (wt0 rfl) rfl rfl (x_assign rfl rfl) ?_)
  refine g_nil ?_
  refine g_then ?_
  refine g_seq ?_
  refine g_seq ?_
  refine g_region ?_
  refine l_of (s_val (v := .slice p n c) (wt0 rfl) rfl rfl (x_move rfl rfl) ?_)
  refine l_of (s_val (v := .string seed) (wt0 rfl) rfl rfl (x_move rfl rfl) ?_)
  refine l_of (s_call (wt0 rfl) (x_call' rfl rfl cl18) (rivals_s seed l p n c (by omega) _ (H0.exReads (k := 0) rfl hr (fun _ _ _ h => h))) ?_)
  rintro _ wq1 ⟨rfl, H2⟩
  replace H2 : S wq1 [Old w no] := H0.absorb (new := []) H2
  refine b_ret rfl rfl ?_
  refine l_of (s_val (v := .int .i64 ((askE seed l))) (wt0 rfl) rfl rfl (x_assign rfl rfl) ?_)
  refine g_nil ?_
  refine g_then ?_
  refine g_seq ?_
  refine g_region ?_
  refine l_of (s_val (v := .int .i64 ((askE seed l))) (wt0 rfl) rfl rfl (x_move rfl rfl) ?_)
  refine l_of (s_val (v := .bool (!decide (((askE seed l) : Int) = 0))) (wt0 rfl) rfl rfl (x_bin rfl rfl rfl b_neq) ?_)
  refine g_nil ?_
  refine g_then ?_
  by_cases hb3 : ((askE seed l) : Int) = 0
  · skip
    refine g_cond_f rfl (nf hb3) ?_
    refine g_skip ?_
    refine g_then ?_
    refine g_seq ?_
    refine g_seq ?_
    refine g_region ?_
    refine l_of (s_val (v := .int .i64 3) (wt0 rfl) rfl rfl (x_move rfl rfl) ?_)
    refine l_of (s_val (v := .bool (decide ((3 : Int) < 1))) (wt0 rfl) rfl rfl (x_bin rfl rfl rfl b_lss) ?_)
    refine l_of (s_val (v := .bool (decide ((3 : Int) < 1))) (wt0 rfl) rfl rfl (x_move rfl rfl) ?_)
    refine l_of (s_val (v := .int .i64 3) (wt1 rfl rfl rfl rfl (by decide)) rfl rfl (x_move rfl rfl) ?_)
    refine l_of (s_val (v := .bool (decide ((4 : Int) < 3))) (wt1 rfl rfl rfl rfl (by decide)) rfl rfl (x_bin rfl rfl rfl b_gtr) ?_)
    refine l_of (s_val (v := .bool (decide ((4 : Int) < 3))) (wt0 rfl) rfl rfl (x_pick_f rfl rfl (by decide) rfl) ?_)
    refine l_of (s_val (v := .bool (decide ((4 : Int) < 3))) (wt0 rfl) rfl rfl (x_move rfl rfl) ?_)
    refine l_of (s_val (v := .int .i64 round) (wt1 rfl rfl rfl rfl (by decide)) rfl rfl (x_move rfl rfl) ?_)
    refine l_of (s_val (v := .bool (decide ((round : Int) < 0))) (wt1 rfl rfl rfl rfl (by decide)) rfl rfl (x_bin rfl rfl rfl b_lss) ?_)
    refine l_of (s_val (v := .bool (decide ((round : Int) < 0))) (wt0 rfl) rfl rfl (x_pick_f rfl rfl (by decide) rfl) ?_)
    refine l_of (s_val (v := .bool (decide ((round : Int) < 0))) (wt0 rfl) rfl rfl (x_move rfl rfl) ?_)
    by_cases hb4 : (round : Int) < 0
    · skip
      refine l_of (s_not (wn1 rfl rfl rfl rfl (decide_eq_true hb4)) rfl rfl ?_)
      refine l_of (s_not (wn1 rfl rfl rfl rfl (decide_eq_true hb4)) rfl rfl ?_)
      refine l_of (s_val (v := .bool true) (wt0 rfl) rfl rfl (x_pick_t rfl rfl (decide_eq_true hb4) rfl) ?_)
      refine l_of (s_val (v := .bool true) (wt0 rfl) rfl rfl (x_move rfl rfl) ?_)
      refine l_of (s_not (wn1 rfl rfl rfl rfl rfl) rfl rfl ?_)
      refine l_of (s_not (wn1 rfl rfl rfl rfl rfl) rfl rfl ?_)
      refine l_of (s_val (v := .bool true) (wt0 rfl) rfl rfl (x_pick_t rfl rfl rfl rfl) ?_)
      refine g_nil ?_
      refine g_then ?_
      refine g_weak [(0, .int .i64 3), (1, .int .i64 round), (2, .int .i64 slots), (3, .string seed), (4, .slice p n c), (36, .bool true)] ⟨rfl, rfl, rfl, rfl, rfl, rfl, trivial⟩ ?_
      refine g_cond_t rfl rfl ?_
      refine g_seq ?_
      refine g_region ?_
      refine l_of (s_val (v := .slice none 0 0) (wt0 rfl) rfl rfl (x_assign rfl rfl) ?_)
      refine l_of (s_val (v := .int .i64 7) (wt0 rfl) rfl rfl (x_assign rfl rfl) ?_)
      refine g_nil ?_
      refine g_then ?_
      refine g_ret ?_
      refine g_then_ret ?_
      refine fin_ret [.tmp 10, .tmp 11] [.slice none 0 0, .int .i64 7] rfl ⟨rfl, rfl, trivial⟩ ?_
      omega
    · skip
      refine l_of (s_val (v := .int .i64 slots) (wt1 rfl rfl rfl rfl (decide_eq_false hb4)) rfl rfl (x_move rfl rfl) ?_)
      refine l_of (s_val (v := .bool (decide ((slots : Int) < 0))) (wt1 rfl rfl rfl rfl (decide_eq_false hb4)) rfl rfl (x_bin rfl rfl rfl b_lss) ?_)
      refine l_of (s_val (v := .bool (decide ((slots : Int) < 0))) (wt0 rfl) rfl rfl (x_pick_f rfl rfl (decide_eq_false hb4) rfl) ?_)
      refine l_of (s_val (v := .bool (decide ((slots : Int) < 0))) (wt0 rfl) rfl rfl (x_move rfl rfl) ?_)
      by_cases hb5 : (slots : Int) < 0
      · skip
        refine l_of (s_not (wn1 rfl rfl rfl rfl (decide_eq_true hb5)) rfl rfl ?_)
        refine l_of (s_not (wn1 rfl rfl rfl rfl (decide_eq_true hb5)) rfl rfl ?_)
        refine l_of (s_val (v := .bool true) (wt0 rfl) rfl rfl (x_pick_t rfl rfl (decide_eq_true hb5) rfl) ?_)
        refine g_nil ?_
        refine g_then ?_
        refine g_weak [(0, .int .i64 3), (1, .int .i64 round), (2, .int .i64 slots), (3, .string seed), (4, .slice p n c), (36, .bool true)] ⟨rfl, rfl, rfl, rfl, rfl, rfl, trivial⟩ ?_
        refine g_cond_t rfl rfl ?_
        refine g_seq ?_
        refine g_region ?_
        refine l_of (s_val (v := .slice none 0 0) (wt0 rfl) rfl rfl (x_assign rfl rfl) ?_)
        refine l_of (s_val (v := .int .i64 7) (wt0 rfl) rfl rfl (x_assign rfl rfl) ?_)
        refine g_nil ?_
        refine g_then ?_
        refine g_ret ?_
        refine g_then_ret ?_
        refine fin_ret [.tmp 10, .tmp 11] [.slice none 0 0, .int .i64 7] rfl ⟨rfl, rfl, trivial⟩ ?_
        omega
      · skip
        refine l_of (s_val (v := .int .i64 slots) (wt1 rfl rfl rfl rfl (decide_eq_false hb5)) rfl rfl (x_move rfl rfl) ?_)
        refine l_of (s_val (v := .bool (decide ((100 : Int) < slots))) (wt1 rfl rfl rfl rfl (decide_eq_false hb5)) rfl rfl (x_bin rfl rfl rfl b_gtr) ?_)
        refine l_of (s_val (v := .bool (decide ((100 : Int) < slots))) (wt0 rfl) rfl rfl (x_pick_f rfl rfl (decide_eq_false hb5) rfl) ?_)
        refine g_nil ?_
        refine g_then ?_
        refine g_weak [(0, .int .i64 3), (1, .int .i64 round), (2, .int .i64 slots), (3, .string seed), (4, .slice p n c), (36, .bool (decide ((100 : Int) < slots)))] ⟨rfl, rfl, rfl, rfl, rfl, rfl, trivial⟩ ?_
        by_cases hb6 : (100 : Int) < slots
        · skip
          refine g_cond_t rfl (decide_eq_true hb6) ?_
          refine g_seq ?_
          refine g_region ?_
          refine l_of (s_val (v := .slice none 0 0) (wt0 rfl) rfl rfl (x_assign rfl rfl) ?_)
          refine l_of (s_val (v := .int .i64 7) (wt0 rfl) rfl rfl (x_assign rfl rfl) ?_)
          refine g_nil ?_
          refine g_then ?_
          refine g_ret ?_
          refine g_then_ret ?_
          refine fin_ret [.tmp 10, .tmp 11] [.slice none 0 0, .int .i64 7] rfl ⟨rfl, rfl, trivial⟩ ?_
          omega
        · skip
          refine g_cond_f rfl (decide_eq_false hb6) ?_
          refine g_skip ?_
          refine g_then ?_
          refine g_seq ?_
          refine g_region ?_
          refine l_of (s_val (v := .int .i64 3) (wt0 rfl) rfl rfl (x_move rfl rfl) ?_)
          refine l_of (s_val (v := .int .i64 round) (wt0 rfl) rfl rfl (x_move rfl rfl) ?_)
          refine l_of (s_val (v := .int .i64 slots) (wt0 rfl) rfl rfl (x_move rfl rfl) ?_)
          refine l_of (s_val (v := .string seed) (wt0 rfl) rfl rfl (x_move rfl rfl) ?_)
          refine l_of (s_val (v := .slice p n c) (wt0 rfl) rfl rfl (x_move rfl rfl) ?_)
          refine l_of (s_call (wt0 rfl) (x_call' rfl rfl cl19) (decided3_s round slots seed l p n c hn2 hval _ (H2.exReads (k := 0) rfl hr (fun _ _ _ h => h))) ?_)
          rintro _ wq7 ⟨pd, cd, rfl, H8⟩
          replace H8 : S wq7 [Rw 3 1 pd ((ids3 l slots).length) cd (fl intL (ids3 l slots)), Old w no] := H2.absorb (new := [Rw 3 1 pd ((ids3 l slots).length) cd (fl intL (ids3 l slots))]) H8
          refine b_ret rfl rfl ?_
          refine l_of (s_val (v := .slice pd ((ids3 l slots).length) cd) (wt0 rfl) rfl rfl (x_assign rfl rfl) ?_)
          refine l_of (s_val (v := .int .i64 0) (wt0 rfl) rfl rfl (x_assign rfl rfl) ?_)
          refine g_nil ?_
          refine g_then ?_
          refine g_weak [(10, .slice pd ((ids3 l slots).length) cd), (11, .int .i64 0)] ⟨rfl, rfl, trivial⟩ ?_
          refine g_ret ?_
          refine fin_ret [.tmp 10, .tmp 11] [.slice pd ((ids3 l slots).length) cd, .int .i64 0] rfl ⟨rfl, rfl, trivial⟩ ?_
          exact ⟨_, _, rfl, H8.takes [0, 1] (by decide)⟩
  · skip
    refine g_cond_t rfl (nt hb3) ?_
    refine g_seq ?_
    refine g_region ?_
    refine l_of (s_val (v := .int .i64 ((askE seed l))) (wt0 rfl) rfl rfl (x_move rfl rfl) ?_)
    refine l_of (s_val (v := .slice none 0 0) (wt0 rfl) rfl rfl (x_assign rfl rfl) ?_)
    refine l_of (s_val (v := .int .i64 ((askE seed l))) (wt0 rfl) rfl rfl (x_assign rfl rfl) ?_)
    refine g_nil ?_
    refine g_then ?_
    refine g_weak [(10, .slice none 0 0), (11, .int .i64 ((askE seed l)))] ⟨rfl, rfl, trivial⟩ ?_
    refine g_ret ?_
    refine g_then_ret ?_
    refine fin_ret [.tmp 10, .tmp 11] [.slice none 0 0, .int .i64 ((askE seed l))] rfl ⟨rfl, rfl, trivial⟩ ?_
    omega
end Go.Proofs.YthfglkkjkpdkpaaGreatDoor
