import Derived.Test.YthfglkkjkpdkpaaGreatDoorLi
set_option linter.unusedSimpArgs false
set_option linter.unusedVariables false
namespace Go.Proofs.YthfglkkjkpdkpaaGreatDoor
open Go.RowKit

theorem cl46 : callable Tryz.prog 46 = true := by kernel_rfl
noncomputable def ids1 (round slots : Int) (seed : ByteArray) (l : List Rv) : List Int := sortI ((way1 round slots seed l).map Rv.id)
noncomputable def rndE (round slots : Int) (seed : ByteArray) (l : List Rv) : Int := if ¬ askE seed l = 0 then askE seed l else if round < 0 ∨ slots < 0 ∨ 100 < slots then 7 else 0
noncomputable def got1 (round slots : Int) (seed : ByteArray) (l : List Rv) : List Int := if rndE round slots seed l = 0 then ids1 round slots seed l else []
theorem way1_len (round slots : Int) (seed : ByteArray) (l : List Rv) : (way1 round slots seed l).length ≤ l.length + l.length := by
  unfold way1 reg1
  have h1 := fill_len slots ((sorted1 l).take (min (sorted1 l).length (slots - 1).toNat)) (optL round seed l)
  have h2 := optL_len round seed l
  have h3 := sorted1_len l
  rw [List.length_take] at h1
  omega
theorem rnd_a {round slots : Int} {seed : ByteArray} {l : List Rv} (h : ¬ askE seed l = 0) : rndE round slots seed l = askE seed l := by unfold rndE; rw [if_pos h]
theorem rnd_7 {round slots : Int} {seed : ByteArray} {l : List Rv} (h : askE seed l = 0) (h1 : round < 0 ∨ slots < 0 ∨ 100 < slots) : rndE round slots seed l = 7 := by unfold rndE; rw [if_neg (not_not_intro h), if_pos h1]
theorem rnd_0 {round slots : Int} {seed : ByteArray} {l : List Rv} (h : askE seed l = 0) (h1 : ¬ (round < 0 ∨ slots < 0 ∨ 100 < slots)) : rndE round slots seed l = 0 := by unfold rndE; rw [if_neg (not_not_intro h), if_neg h1]
theorem rnd_ok {round slots : Int} {seed : ByteArray} {l : List Rv} (h : rndE round slots seed l = 0) : askE seed l = 0 ∧ 0 ≤ round ∧ 0 ≤ slots ∧ slots ≤ 100 := by
  by_cases h1 : askE seed l = 0
  · refine ⟨h1, ?_⟩
    by_cases h2 : round < 0 ∨ slots < 0 ∨ 100 < slots
    · rw [rnd_7 h1 h2] at h; cases h
    · omega
  · rw [rnd_a h1] at h; exact absurd h h1
theorem askE_size {seed : ByteArray} {l : List Rv} (h : askE seed l = 0) : seed.size ≤ 100 := by
  unfold askE at h
  by_cases h1 : 100 < seed.size ∨ 200 < l.length ∨ l.any (fun x => !validR x) = true
  · rw [if_pos h1] at h; exact absurd h (by decide)
  · omega
set_option maxRecDepth 20000 in
set_option maxHeartbeats 4000000 in
set_option maxRecDepth 20000 in
set_option maxHeartbeats 4000000 in
theorem decided1_s (round slots : Int) (seed : ByteArray) (l : List Rv) (p : Option Addr) (n c : Nat) (hn2 : n ≤ 200) (hval : ∀ x ∈ l, validR x = true) (hsd : seed.size ≤ 200) (hrd : 0 ≤ round ∧ round ≤ 9223372036854775807) (hsl : 0 ≤ slots ∧ slots ≤ 100)  (w : World) (hr : Reads w p n c 10 (fl rvL l)) (ht : PowTab w) : Calls Tryz.prog 19 #[.int .i64 1, .int .i64 round, .int .i64 slots, .string seed, .slice p n c] w fun e w' => ∃ p' c', e = .returned (.slice p' (ids1 round slots seed l).length c') ∧ S w' ([Rw 3 1 p' (ids1 round slots seed l).length c' (fl intL (ids1 round slots seed l))] ++ [Old w no]) := by
  have H0 := S.old w
  have hnl := hr.lenL rvE
  have hwl := way1_len round slots seed l
  refine enter 22 Tryz.func19 rfl rfl rfl ?_
  refine g_weak [(0, .int .i64 1), (1, .int .i64 round), (2, .int .i64 slots), (3, .string seed), (4, .slice p n c)] ⟨rfl, rfl, rfl, rfl, rfl, trivial⟩ ?_
  refine g_seq ?_
  refine g_region ?_
  refine l_of (s_val (v := .slice none 0 0) (wt0 rfl) rfl rfl (x_assign rfl rfl) ?_)
  refine g_nil ?_
  refine g_then ?_
  refine g_seq ?_
  refine g_region ?_
  refine l_of (s_call (wt0 rfl) (x_call' rfl rfl cl32) (ways_s _) ?_)
  rintro _ wq1 ⟨rfl, H2⟩
  replace H2 : S wq1 [Old w no] := H0.absorb (new := []) H2
  refine b_ret rfl rfl ?_
  refine l_of (s_val (v := .int .i64 1) (wt0 rfl) rfl rfl (x_move rfl rfl) ?_)
  refine l_of (s_val (v := .int .i64 0) (wt0 rfl) rfl rfl (x_bin rfl rfl rfl (b_sub (r := 0) (by decide))) ?_)
  refine l_of (s_val (v := .func (.func 46) #[] #[]) (wt0 rfl) rfl rfl (x_indexW 0 rfl rfl rfl Tryz.underlying59 sz58 Tryz.underlying58 rfl ⟨by decide, by decide⟩ rfl) ?_)
  refine l_of (s_val (v := .int .i64 round) (wt0 rfl) rfl rfl (x_move rfl rfl) ?_)
  refine l_of (s_val (v := .int .i64 slots) (wt0 rfl) rfl rfl (x_move rfl rfl) ?_)
  refine l_of (s_val (v := .string seed) (wt0 rfl) rfl rfl (x_move rfl rfl) ?_)
  refine l_of (s_val (v := .slice p n c) (wt0 rfl) rfl rfl (x_move rfl rfl) ?_)
  refine l_of (s_val (v := .agg #[.int .i64 round, .int .i64 slots, .string seed, .slice p n c]) (wt0 rfl) rfl rfl (x_build (vs := [.int .i64 round, .int .i64 slots, .string seed, .slice p n c]) rfl rfl (cells := #[.int .i64 round, .int .i64 slots, .string seed, .slice p n c]) (by kernel_rfl)) ?_)
  refine l_of (s_call (wt0 rfl) (x_call rfl rfl rfl cl46) (way1_s round slots seed l p n c hn2 hval hsd hrd hsl _ (H2.exReads (k := 0) rfl hr (fun _ _ _ h => h)) (H2.tab (k := 0) rfl ht)) ?_)
  rintro _ wq3 ⟨pw, cw, rfl, H4⟩
  replace H4 : S wq3 [Rw 30 10 pw ((way1 round slots seed l).length) cw (fl rvL (way1 round slots seed l)), Old w no] := H2.absorb (new := [Rw 30 10 pw ((way1 round slots seed l).length) cw (fl rvL (way1 round slots seed l))]) H4
  refine b_ret rfl rfl ?_
  refine l_of (s_call (wt0 rfl) (x_call' rfl rfl cl31) (ids_s (way1 round slots seed l) pw ((way1 round slots seed l).length) cw (by omega) _ (H4.rwReads (k := 0) rfl)) ?_)
  rintro _ wq7 ⟨p5, c6, rfl, H8⟩
  replace H8 : S wq7 [Rw 3 1 p5 ((sortI ((way1 round slots seed l).map Rv.id)).length) c6 (fl intL (sortI ((way1 round slots seed l).map Rv.id))), Rw 30 10 pw ((way1 round slots seed l).length) cw (fl rvL (way1 round slots seed l)), Old w no] := H4.absorb (new := [Rw 3 1 p5 ((sortI ((way1 round slots seed l).map Rv.id)).length) c6 (fl intL (sortI ((way1 round slots seed l).map Rv.id)))]) H8
  refine b_ret rfl rfl ?_
  refine l_of (s_val (v := .slice p5 ((sortI ((way1 round slots seed l).map Rv.id)).length) c6) (wt0 rfl) rfl rfl (x_assign rfl rfl) ?_)
  refine g_nil ?_
  refine g_then ?_
  refine g_weak [(10, .slice p5 ((sortI ((way1 round slots seed l).map Rv.id)).length) c6)] ⟨rfl, trivial⟩ ?_
  refine g_ret ?_
  refine fin_ret [.tmp 10] [.slice p5 ((sortI ((way1 round slots seed l).map Rv.id)).length) c6] rfl ⟨rfl, trivial⟩ ?_
  exact ⟨_, _, rfl, H8.takes [0, 2] (by decide)⟩
set_option maxRecDepth 20000 in
set_option maxHeartbeats 4000000 in
set_option maxRecDepth 20000 in
set_option maxHeartbeats 4000000 in
theorem round1_s (round slots : Int) (seed : ByteArray) (l : List Rv) (p : Option Addr) (n c : Nat) (hn2 : n ≤ 200) (hro : okI round)  (w : World) (hr : Reads w p n c 10 (fl rvL l)) (ht : PowTab w) : Calls Tryz.prog 7 #[.int .i64 1, .int .i64 round, .int .i64 slots, .string seed, .slice p n c] w fun e w' => ∃ p' c', e = .returned (.tuple #[.slice p' (got1 round slots seed l).length c', .int .i64 (rndE round slots seed l)]) ∧ S w' ([Rw 3 1 p' (got1 round slots seed l).length c' (fl intL (got1 round slots seed l))] ++ [Old w no]) := by
  have H0 := S.old w
  have hnl := hr.lenL rvE
  refine enter 43 Tryz.func7 rfl rfl rfl ?_
  refine g_weak [(0, .int .i64 1), (1, .int .i64 round), (2, .int .i64 slots), (3, .string seed), (4, .slice p n c)] ⟨rfl, rfl, rfl, rfl, rfl, trivial⟩ ?_
  refine g_seq ?_
  refine g_region ?_
  refine l_of (s_val (v := .slice none 0 0) (wt0 rfl) rfl rfl (x_assign rfl rfl) ?_)
  refine l_of (s_val (v := .int .i64 0) (wt0 rfl) rfl rfl (x_assign rfl rfl) ?_)
  refine g_nil ?_
  refine g_then ?_
  refine g_seq ?_
  refine g_seq ?_
  refine g_region ?_
  refine l_of (s_val (v := .slice p n c) (wt0 rfl) rfl rfl (x_move rfl rfl) ?_)
  refine l_of (s_val (v := .string seed) (wt0 rfl) rfl rfl (x_move rfl rfl) ?_)
  refine l_of (s_call (wt0 rfl) (x_call' rfl rfl cl18) (rivals_s seed l p n c (by omega) _ (H0.exReads (k := 0) rfl hr (fun _ _ _ h => h))) ?_)
  rintro _ wq1 ⟨rfl, H2⟩
  replace H2 : S wq1 [Old w no] := H0.absorb (new := []) H2
  refine b_ret rfl rfl ?_
  refine l_of (s_val (v := .int .i64 ((askE seed l))) (wt0 rfl) rfl rfl (x_assign rfl rfl) ?_)
  refine g_nil ?_
  refine g_then ?_
  refine g_seq ?_
  refine g_region ?_
  refine l_of (s_val (v := .int .i64 ((askE seed l))) (wt0 rfl) rfl rfl (x_move rfl rfl) ?_)
  refine l_of (s_val (v := .bool (!decide (((askE seed l) : Int) = 0))) (wt0 rfl) rfl rfl (x_bin rfl rfl rfl b_neq) ?_)
  refine g_nil ?_
  refine g_then ?_
  by_cases hb3 : ((askE seed l) : Int) = 0
  · skip
    refine g_cond_f rfl (nf hb3) ?_
    refine g_skip ?_
    refine g_then ?_
    refine g_seq ?_
    refine g_seq ?_
    refine g_region ?_
    refine l_of (s_val (v := .int .i64 1) (wt0 rfl) rfl rfl (x_move rfl rfl) ?_)
    refine l_of (s_val (v := .bool (decide ((1 : Int) < 1))) (wt0 rfl) rfl rfl (x_bin rfl rfl rfl b_lss) ?_)
    refine l_of (s_val (v := .bool (decide ((1 : Int) < 1))) (wt0 rfl) rfl rfl (x_move rfl rfl) ?_)
    refine l_of (s_val (v := .int .i64 1) (wt1 rfl rfl rfl rfl (by decide)) rfl rfl (x_move rfl rfl) ?_)
    refine l_of (s_val (v := .bool (decide ((4 : Int) < 1))) (wt1 rfl rfl rfl rfl (by decide)) rfl rfl (x_bin rfl rfl rfl b_gtr) ?_)
    refine l_of (s_val (v := .bool (decide ((4 : Int) < 1))) (wt0 rfl) rfl rfl (x_pick_f rfl rfl (by decide) rfl) ?_)
    refine l_of (s_val (v := .bool (decide ((4 : Int) < 1))) (wt0 rfl) rfl rfl (x_move rfl rfl) ?_)
    refine l_of (s_val (v := .int .i64 round) (wt1 rfl rfl rfl rfl (by decide)) rfl rfl (x_move rfl rfl) ?_)
    refine l_of (s_val (v := .bool (decide ((round : Int) < 0))) (wt1 rfl rfl rfl rfl (by decide)) rfl rfl (x_bin rfl rfl rfl b_lss) ?_)
    refine l_of (s_val (v := .bool (decide ((round : Int) < 0))) (wt0 rfl) rfl rfl (x_pick_f rfl rfl (by decide) rfl) ?_)
    refine l_of (s_val (v := .bool (decide ((round : Int) < 0))) (wt0 rfl) rfl rfl (x_move rfl rfl) ?_)
    by_cases hb4 : (round : Int) < 0
    · skip
      refine l_of (s_not (wn1 rfl rfl rfl rfl (decide_eq_true hb4)) rfl rfl ?_)
      refine l_of (s_not (wn1 rfl rfl rfl rfl (decide_eq_true hb4)) rfl rfl ?_)
      refine l_of (s_val (v := .bool true) (wt0 rfl) rfl rfl (x_pick_t rfl rfl (decide_eq_true hb4) rfl) ?_)
      refine l_of (s_val (v := .bool true) (wt0 rfl) rfl rfl (x_move rfl rfl) ?_)
      refine l_of (s_not (wn1 rfl rfl rfl rfl rfl) rfl rfl ?_)
      refine l_of (s_not (wn1 rfl rfl rfl rfl rfl) rfl rfl ?_)
      refine l_of (s_val (v := .bool true) (wt0 rfl) rfl rfl (x_pick_t rfl rfl rfl rfl) ?_)
      refine g_nil ?_
      refine g_then ?_
      refine g_weak [(0, .int .i64 1), (1, .int .i64 round), (2, .int .i64 slots), (3, .string seed), (4, .slice p n c), (36, .bool true)] ⟨rfl, rfl, rfl, rfl, rfl, rfl, trivial⟩ ?_
      refine g_cond_t rfl rfl ?_
      refine g_seq ?_
      refine g_region ?_
      refine l_of (s_val (v := .slice none 0 0) (wt0 rfl) rfl rfl (x_assign rfl rfl) ?_)
      refine l_of (s_val (v := .int .i64 7) (wt0 rfl) rfl rfl (x_assign rfl rfl) ?_)
      refine g_nil ?_
      refine g_then ?_
      refine g_ret ?_
      refine g_then_ret ?_
      refine fin_ret [.tmp 10, .tmp 11] [.slice none 0 0, .int .i64 7] rfl ⟨rfl, rfl, trivial⟩ ?_
      have hv : (rndE round slots seed l) = 7 := rnd_7 (by omega) (by omega)
      have hg : (got1 round slots seed l) = [] := by unfold got1; rw [hv, if_neg (by decide)]
      rw [hg, hv]
      exact ⟨none, 0, rfl, (H2.takes [0] (by decide)).nilFl 3 1 intL⟩
    · skip
      refine l_of (s_val (v := .int .i64 slots) (wt1 rfl rfl rfl rfl (decide_eq_false hb4)) rfl rfl (x_move rfl rfl) ?_)
      refine l_of (s_val (v := .bool (decide ((slots : Int) < 0))) (wt1 rfl rfl rfl rfl (decide_eq_false hb4)) rfl rfl (x_bin rfl rfl rfl b_lss) ?_)
      refine l_of (s_val (v := .bool (decide ((slots : Int) < 0))) (wt0 rfl) rfl rfl (x_pick_f rfl rfl (decide_eq_false hb4) rfl) ?_)
      refine l_of (s_val (v := .bool (decide ((slots : Int) < 0))) (wt0 rfl) rfl rfl (x_move rfl rfl) ?_)
      by_cases hb5 : (slots : Int) < 0
      · skip
        refine l_of (s_not (wn1 rfl rfl rfl rfl (decide_eq_true hb5)) rfl rfl ?_)
        refine l_of (s_not (wn1 rfl rfl rfl rfl (decide_eq_true hb5)) rfl rfl ?_)
        refine l_of (s_val (v := .bool true) (wt0 rfl) rfl rfl (x_pick_t rfl rfl (decide_eq_true hb5) rfl) ?_)
        refine g_nil ?_
        refine g_then ?_
        refine g_weak [(0, .int .i64 1), (1, .int .i64 round), (2, .int .i64 slots), (3, .string seed), (4, .slice p n c), (36, .bool true)] ⟨rfl, rfl, rfl, rfl, rfl, rfl, trivial⟩ ?_
        refine g_cond_t rfl rfl ?_
        refine g_seq ?_
        refine g_region ?_
        refine l_of (s_val (v := .slice none 0 0) (wt0 rfl) rfl rfl (x_assign rfl rfl) ?_)
        refine l_of (s_val (v := .int .i64 7) (wt0 rfl) rfl rfl (x_assign rfl rfl) ?_)
        refine g_nil ?_
        refine g_then ?_
        refine g_ret ?_
        refine g_then_ret ?_
        refine fin_ret [.tmp 10, .tmp 11] [.slice none 0 0, .int .i64 7] rfl ⟨rfl, rfl, trivial⟩ ?_
        have hv : (rndE round slots seed l) = 7 := rnd_7 (by omega) (by omega)
        have hg : (got1 round slots seed l) = [] := by unfold got1; rw [hv, if_neg (by decide)]
        rw [hg, hv]
        exact ⟨none, 0, rfl, (H2.takes [0] (by decide)).nilFl 3 1 intL⟩
      · skip
        refine l_of (s_val (v := .int .i64 slots) (wt1 rfl rfl rfl rfl (decide_eq_false hb5)) rfl rfl (x_move rfl rfl) ?_)
        refine l_of (s_val (v := .bool (decide ((100 : Int) < slots))) (wt1 rfl rfl rfl rfl (decide_eq_false hb5)) rfl rfl (x_bin rfl rfl rfl b_gtr) ?_)
        refine l_of (s_val (v := .bool (decide ((100 : Int) < slots))) (wt0 rfl) rfl rfl (x_pick_f rfl rfl (decide_eq_false hb5) rfl) ?_)
        refine g_nil ?_
        refine g_then ?_
        refine g_weak [(0, .int .i64 1), (1, .int .i64 round), (2, .int .i64 slots), (3, .string seed), (4, .slice p n c), (36, .bool (decide ((100 : Int) < slots)))] ⟨rfl, rfl, rfl, rfl, rfl, rfl, trivial⟩ ?_
        by_cases hb6 : (100 : Int) < slots
        · skip
          refine g_cond_t rfl (decide_eq_true hb6) ?_
          refine g_seq ?_
          refine g_region ?_
          refine l_of (s_val (v := .slice none 0 0) (wt0 rfl) rfl rfl (x_assign rfl rfl) ?_)
          refine l_of (s_val (v := .int .i64 7) (wt0 rfl) rfl rfl (x_assign rfl rfl) ?_)
          refine g_nil ?_
          refine g_then ?_
          refine g_ret ?_
          refine g_then_ret ?_
          refine fin_ret [.tmp 10, .tmp 11] [.slice none 0 0, .int .i64 7] rfl ⟨rfl, rfl, trivial⟩ ?_
          have hv : (rndE round slots seed l) = 7 := rnd_7 (by omega) (by omega)
          have hg : (got1 round slots seed l) = [] := by unfold got1; rw [hv, if_neg (by decide)]
          rw [hg, hv]
          exact ⟨none, 0, rfl, (H2.takes [0] (by decide)).nilFl 3 1 intL⟩
        · skip
          refine g_cond_f rfl (decide_eq_false hb6) ?_
          refine g_skip ?_
          refine g_then ?_
          refine g_seq ?_
          refine g_region ?_
          refine l_of (s_val (v := .int .i64 1) (wt0 rfl) rfl rfl (x_move rfl rfl) ?_)
          refine l_of (s_val (v := .int .i64 round) (wt0 rfl) rfl rfl (x_move rfl rfl) ?_)
          refine l_of (s_val (v := .int .i64 slots) (wt0 rfl) rfl rfl (x_move rfl rfl) ?_)
          refine l_of (s_val (v := .string seed) (wt0 rfl) rfl rfl (x_move rfl rfl) ?_)
          refine l_of (s_val (v := .slice p n c) (wt0 rfl) rfl rfl (x_move rfl rfl) ?_)
          have hask : askE seed l = 0 := by omega
          have hval := (askE_ok hask).2.1
          have hs100 := askE_size hask
          refine l_of (s_call (wt0 rfl) (x_call' rfl rfl cl19) (decided1_s round slots seed l p n c hn2 hval (by omega) ⟨by omega, hro.2⟩ (by omega) _ (H2.exReads (k := 0) rfl hr (fun _ _ _ h => h)) (H2.tab (k := 0) rfl ht)) ?_)
          rintro _ wq7 ⟨pd, cd, rfl, H8⟩
          replace H8 : S wq7 [Rw 3 1 pd ((ids1 round slots seed l).length) cd (fl intL (ids1 round slots seed l)), Old w no] := H2.absorb (new := [Rw 3 1 pd ((ids1 round slots seed l).length) cd (fl intL (ids1 round slots seed l))]) H8
          refine b_ret rfl rfl ?_
          refine l_of (s_val (v := .slice pd ((ids1 round slots seed l).length) cd) (wt0 rfl) rfl rfl (x_assign rfl rfl) ?_)
          refine l_of (s_val (v := .int .i64 0) (wt0 rfl) rfl rfl (x_assign rfl rfl) ?_)
          refine g_nil ?_
          refine g_then ?_
          refine g_weak [(10, .slice pd ((ids1 round slots seed l).length) cd), (11, .int .i64 0)] ⟨rfl, rfl, trivial⟩ ?_
          refine g_ret ?_
          refine fin_ret [.tmp 10, .tmp 11] [.slice pd ((ids1 round slots seed l).length) cd, .int .i64 0] rfl ⟨rfl, rfl, trivial⟩ ?_
          have hv : (rndE round slots seed l) = 0 := rnd_0 (by omega) (by omega)
          have hg : (got1 round slots seed l) = (ids1 round slots seed l) := by unfold got1; rw [hv, if_pos rfl]
          rw [hg, hv]
          exact ⟨_, _, rfl, H8.takes [0, 1] (by decide)⟩
  · skip
    refine g_cond_t rfl (nt hb3) ?_
    refine g_seq ?_
    refine g_region ?_
    refine l_of (s_val (v := .int .i64 ((askE seed l))) (wt0 rfl) rfl rfl (x_move rfl rfl) ?_)
    refine l_of (s_val (v := .slice none 0 0) (wt0 rfl) rfl rfl (x_assign rfl rfl) ?_)
    refine l_of (s_val (v := .int .i64 ((askE seed l))) (wt0 rfl) rfl rfl (x_assign rfl rfl) ?_)
    refine g_nil ?_
    refine g_then ?_
    refine g_weak [(10, .slice none 0 0), (11, .int .i64 ((askE seed l)))] ⟨rfl, rfl, trivial⟩ ?_
    refine g_ret ?_
    refine g_then_ret ?_
    refine fin_ret [.tmp 10, .tmp 11] [.slice none 0 0, .int .i64 ((askE seed l))] rfl ⟨rfl, rfl, trivial⟩ ?_
    have hv : (rndE round slots seed l) = (askE seed l) := rnd_a hb3
    have hg : (got1 round slots seed l) = [] := by unfold got1; rw [hv, if_neg hb3]
    rw [hg, hv]
    exact ⟨none, 0, rfl, (H2.takes [0] (by decide)).nilFl 3 1 intL⟩
end Go.Proofs.YthfglkkjkpdkpaaGreatDoor
