import Derived.Test.YthfglkkjkpdkpaaGreatDoorMc
import Derived.Test.YthfglkkjkpdkpaaGreatDoorFk
import Derived.Test.YthfglkkjkpdkpaaGreatDoorLt
set_option linter.unusedSimpArgs false
set_option linter.unusedVariables false
namespace Go.Proofs.YthfglkkjkpdkpaaGreatDoor
open Go.RowKit

theorem cl23 : callable Tryz.prog 23 = true := by kernel_rfl
set_option maxRecDepth 20000 in
set_option maxHeartbeats 4000000 in
set_option maxRecDepth 20000 in
set_option maxHeartbeats 4000000 in
theorem roundW_r (way round slots : Int) (seed : ByteArray) (l : List Rv) (p : Option Addr) (n c : Nat) (hn2 : n ≤ 30) (hro : okI round)  (w : World) (hr : Reads w p n c 10 (fl rvL l)) (ht : PowTab w) : Calls Tryz.prog 10 #[.int .i64 way, .int .i64 round, .int .i64 slots, .string seed, .slice p n c] w fun e w' => ∃ p' c', e = .returned (.tuple #[.slice p' (gotW way round slots seed l).length c', .int .i64 (rndW way round slots seed l)]) ∧ ((rndW way round slots seed l) = 0 → IdsOK slots (ableW way l) (gotW way round slots seed l)) ∧ S w' ([Rw 3 1 p' (gotW way round slots seed l).length c' (fl intL (gotW way round slots seed l))] ++ [Old w no]) := by
  have H0 := S.old w
  have hnl := hr.lenL rvE
  refine enter 43 Tryz.func10 rfl rfl rfl ?_
  refine g_weak [(0, .int .i64 way), (1, .int .i64 round), (2, .int .i64 slots), (3, .string seed), (4, .slice p n c)] ⟨rfl, rfl, rfl, rfl, rfl, trivial⟩ ?_
  refine g_seq ?_
  refine g_region ?_
  refine l_of (s_val (v := .slice none 0 0) (wt0 rfl) rfl rfl (x_assign rfl rfl) ?_)
  refine l_of (s_val (v := .int .i64 0) (wt0 rfl) rfl rfl (x_assign rfl rfl) ?_)
  refine g_nil ?_
  refine g_then ?_
  refine g_seq ?_
  refine g_seq ?_
  refine g_region ?_
  refine l_of (s_val (v := .string seed) (wt0 rfl) rfl rfl (x_move rfl rfl) ?_)
  refine l_of (s_val (v := .slice p n c) (wt0 rfl) rfl rfl (x_move rfl rfl) ?_)
  refine l_of (s_call (wt0 rfl) (x_call' rfl rfl cl22) (asked_r seed l p n c (by omega) _ (H0.exReads (k := 0) rfl hr (fun _ _ _ h => h))) ?_)
  rintro _ wq1 ⟨rfl, H2⟩
  replace H2 : S wq1 [Old w no] := H0.absorb (new := []) H2
  refine b_ret rfl rfl ?_
  refine l_of (s_val (v := .int .i64 ((askE seed l))) (wt0 rfl) rfl rfl (x_assign rfl rfl) ?_)
  refine g_nil ?_
  refine g_then ?_
  refine g_seq ?_
  refine g_region ?_
  refine l_of (s_val (v := .int .i64 ((askE seed l))) (wt0 rfl) rfl rfl (x_move rfl rfl) ?_)
  refine l_of (s_val (v := .bool (!decide (((askE seed l) : Int) = 0))) (wt0 rfl) rfl rfl (x_bin rfl rfl rfl b_neq) ?_)
  refine g_nil ?_
  refine g_then ?_
  by_cases hb3 : ((askE seed l) : Int) = 0
  · skip
    refine g_cond_f rfl (nf hb3) ?_
    refine g_skip ?_
    refine g_then ?_
    refine g_seq ?_
    refine g_seq ?_
    refine g_region ?_
    refine l_of (s_val (v := .int .i64 way) (wt0 rfl) rfl rfl (x_move rfl rfl) ?_)
    refine l_of (s_val (v := .bool (decide ((way : Int) < 1))) (wt0 rfl) rfl rfl (x_bin rfl rfl rfl b_lss) ?_)
    refine l_of (s_val (v := .bool (decide ((way : Int) < 1))) (wt0 rfl) rfl rfl (x_move rfl rfl) ?_)
    by_cases hb4 : (way : Int) < 1
    · skip
      refine l_of (s_not (wn1 rfl rfl rfl rfl (decide_eq_true hb4)) rfl rfl ?_)
      refine l_of (s_not (wn1 rfl rfl rfl rfl (decide_eq_true hb4)) rfl rfl ?_)
      refine l_of (s_val (v := .bool true) (wt0 rfl) rfl rfl (x_pick_t rfl rfl (decide_eq_true hb4) rfl) ?_)
      refine l_of (s_val (v := .bool true) (wt0 rfl) rfl rfl (x_move rfl rfl) ?_)
      refine l_of (s_not (wn1 rfl rfl rfl rfl rfl) rfl rfl ?_)
      refine l_of (s_not (wn1 rfl rfl rfl rfl rfl) rfl rfl ?_)
      refine l_of (s_val (v := .bool true) (wt0 rfl) rfl rfl (x_pick_t rfl rfl rfl rfl) ?_)
      refine l_of (s_val (v := .bool true) (wt0 rfl) rfl rfl (x_move rfl rfl) ?_)
      refine l_of (s_not (wn1 rfl rfl rfl rfl rfl) rfl rfl ?_)
      refine l_of (s_not (wn1 rfl rfl rfl rfl rfl) rfl rfl ?_)
      refine l_of (s_val (v := .bool true) (wt0 rfl) rfl rfl (x_pick_t rfl rfl rfl rfl) ?_)
      refine l_of (s_val (v := .bool true) (wt0 rfl) rfl rfl (x_move rfl rfl) ?_)
      refine l_of (s_not (wn1 rfl rfl rfl rfl rfl) rfl rfl ?_)
      refine l_of (s_not (wn1 rfl rfl rfl rfl rfl) rfl rfl ?_)
      refine l_of (s_val (v := .bool true) (wt0 rfl) rfl rfl (x_pick_t rfl rfl rfl rfl) ?_)
      refine g_nil ?_
      refine g_then ?_
      refine g_weak [(0, .int .i64 way), (1, .int .i64 round), (2, .int .i64 slots), (3, .string seed), (4, .slice p n c), (36, .bool true)] ⟨rfl, rfl, rfl, rfl, rfl, rfl, trivial⟩ ?_
      refine g_cond_t rfl rfl ?_
      refine g_seq ?_
      refine g_region ?_
      refine l_of (s_val (v := .slice none 0 0) (wt0 rfl) rfl rfl (x_assign rfl rfl) ?_)
      refine l_of (s_val (v := .int .i64 7) (wt0 rfl) rfl rfl (x_assign rfl rfl) ?_)
      refine g_nil ?_
      refine g_then ?_
      refine g_ret ?_
      refine g_then_ret ?_
      refine fin_ret [.tmp 10, .tmp 11] [.slice none 0 0, .int .i64 7] rfl ⟨rfl, rfl, trivial⟩ ?_
      have hv : (rndW way round slots seed l) = 7 := rndW_7 (by omega) (by omega)
      have hg : (gotW way round slots seed l) = [] := by unfold gotW; rw [hv, if_neg (by decide)]
      rw [hg, hv]
      exact ⟨none, 0, rfl, fun hz => absurd hz (by decide), (H2.takes [0] (by decide)).nilFl 3 1 intL⟩
    · skip
      refine l_of (s_val (v := .int .i64 way) (wt1 rfl rfl rfl rfl (decide_eq_false hb4)) rfl rfl (x_move rfl rfl) ?_)
      refine l_of (s_val (v := .bool (decide ((4 : Int) < way))) (wt1 rfl rfl rfl rfl (decide_eq_false hb4)) rfl rfl (x_bin rfl rfl rfl b_gtr) ?_)
      refine l_of (s_val (v := .bool (decide ((4 : Int) < way))) (wt0 rfl) rfl rfl (x_pick_f rfl rfl (decide_eq_false hb4) rfl) ?_)
      refine l_of (s_val (v := .bool (decide ((4 : Int) < way))) (wt0 rfl) rfl rfl (x_move rfl rfl) ?_)
      by_cases hb5 : (4 : Int) < way
      · skip
        refine l_of (s_not (wn1 rfl rfl rfl rfl (decide_eq_true hb5)) rfl rfl ?_)
        refine l_of (s_not (wn1 rfl rfl rfl rfl (decide_eq_true hb5)) rfl rfl ?_)
        refine l_of (s_val (v := .bool true) (wt0 rfl) rfl rfl (x_pick_t rfl rfl (decide_eq_true hb5) rfl) ?_)
        refine l_of (s_val (v := .bool true) (wt0 rfl) rfl rfl (x_move rfl rfl) ?_)
        refine l_of (s_not (wn1 rfl rfl rfl rfl rfl) rfl rfl ?_)
        refine l_of (s_not (wn1 rfl rfl rfl rfl rfl) rfl rfl ?_)
        refine l_of (s_val (v := .bool true) (wt0 rfl) rfl rfl (x_pick_t rfl rfl rfl rfl) ?_)
        refine l_of (s_val (v := .bool true) (wt0 rfl) rfl rfl (x_move rfl rfl) ?_)
        refine l_of (s_not (wn1 rfl rfl rfl rfl rfl) rfl rfl ?_)
        refine l_of (s_not (wn1 rfl rfl rfl rfl rfl) rfl rfl ?_)
        refine l_of (s_val (v := .bool true) (wt0 rfl) rfl rfl (x_pick_t rfl rfl rfl rfl) ?_)
        refine g_nil ?_
        refine g_then ?_
        refine g_weak [(0, .int .i64 way), (1, .int .i64 round), (2, .int .i64 slots), (3, .string seed), (4, .slice p n c), (36, .bool true)] ⟨rfl, rfl, rfl, rfl, rfl, rfl, trivial⟩ ?_
        refine g_cond_t rfl rfl ?_
        refine g_seq ?_
        refine g_region ?_
        refine l_of (s_val (v := .slice none 0 0) (wt0 rfl) rfl rfl (x_assign rfl rfl) ?_)
        refine l_of (s_val (v := .int .i64 7) (wt0 rfl) rfl rfl (x_assign rfl rfl) ?_)
        refine g_nil ?_
        refine g_then ?_
        refine g_ret ?_
        refine g_then_ret ?_
        refine fin_ret [.tmp 10, .tmp 11] [.slice none 0 0, .int .i64 7] rfl ⟨rfl, rfl, trivial⟩ ?_
        have hv : (rndW way round slots seed l) = 7 := rndW_7 (by omega) (by omega)
        have hg : (gotW way round slots seed l) = [] := by unfold gotW; rw [hv, if_neg (by decide)]
        rw [hg, hv]
        exact ⟨none, 0, rfl, fun hz => absurd hz (by decide), (H2.takes [0] (by decide)).nilFl 3 1 intL⟩
      · skip
        refine l_of (s_val (v := .int .i64 round) (wt1 rfl rfl rfl rfl (decide_eq_false hb5)) rfl rfl (x_move rfl rfl) ?_)
        refine l_of (s_val (v := .bool (decide ((round : Int) < 0))) (wt1 rfl rfl rfl rfl (decide_eq_false hb5)) rfl rfl (x_bin rfl rfl rfl b_lss) ?_)
        refine l_of (s_val (v := .bool (decide ((round : Int) < 0))) (wt0 rfl) rfl rfl (x_pick_f rfl rfl (decide_eq_false hb5) rfl) ?_)
        refine l_of (s_val (v := .bool (decide ((round : Int) < 0))) (wt0 rfl) rfl rfl (x_move rfl rfl) ?_)
        by_cases hb6 : (round : Int) < 0
        · skip
          refine l_of (s_not (wn1 rfl rfl rfl rfl (decide_eq_true hb6)) rfl rfl ?_)
          refine l_of (s_not (wn1 rfl rfl rfl rfl (decide_eq_true hb6)) rfl rfl ?_)
          refine l_of (s_val (v := .bool true) (wt0 rfl) rfl rfl (x_pick_t rfl rfl (decide_eq_true hb6) rfl) ?_)
          refine l_of (s_val (v := .bool true) (wt0 rfl) rfl rfl (x_move rfl rfl) ?_)
          refine l_of (s_not (wn1 rfl rfl rfl rfl rfl) rfl rfl ?_)
          refine l_of (s_not (wn1 rfl rfl rfl rfl rfl) rfl rfl ?_)
          refine l_of (s_val (v := .bool true) (wt0 rfl) rfl rfl (x_pick_t rfl rfl rfl rfl) ?_)
          refine g_nil ?_
          refine g_then ?_
          refine g_weak [(0, .int .i64 way), (1, .int .i64 round), (2, .int .i64 slots), (3, .string seed), (4, .slice p n c), (36, .bool true)] ⟨rfl, rfl, rfl, rfl, rfl, rfl, trivial⟩ ?_
          refine g_cond_t rfl rfl ?_
          refine g_seq ?_
          refine g_region ?_
          refine l_of (s_val (v := .slice none 0 0) (wt0 rfl) rfl rfl (x_assign rfl rfl) ?_)
          refine l_of (s_val (v := .int .i64 7) (wt0 rfl) rfl rfl (x_assign rfl rfl) ?_)
          refine g_nil ?_
          refine g_then ?_
          refine g_ret ?_
          refine g_then_ret ?_
          refine fin_ret [.tmp 10, .tmp 11] [.slice none 0 0, .int .i64 7] rfl ⟨rfl, rfl, trivial⟩ ?_
          have hv : (rndW way round slots seed l) = 7 := rndW_7 (by omega) (by omega)
          have hg : (gotW way round slots seed l) = [] := by unfold gotW; rw [hv, if_neg (by decide)]
          rw [hg, hv]
          exact ⟨none, 0, rfl, fun hz => absurd hz (by decide), (H2.takes [0] (by decide)).nilFl 3 1 intL⟩
        · skip
          refine l_of (s_val (v := .int .i64 slots) (wt1 rfl rfl rfl rfl (decide_eq_false hb6)) rfl rfl (x_move rfl rfl) ?_)
          refine l_of (s_val (v := .bool (decide ((slots : Int) < 0))) (wt1 rfl rfl rfl rfl (decide_eq_false hb6)) rfl rfl (x_bin rfl rfl rfl b_lss) ?_)
          refine l_of (s_val (v := .bool (decide ((slots : Int) < 0))) (wt0 rfl) rfl rfl (x_pick_f rfl rfl (decide_eq_false hb6) rfl) ?_)
          refine l_of (s_val (v := .bool (decide ((slots : Int) < 0))) (wt0 rfl) rfl rfl (x_move rfl rfl) ?_)
          by_cases hb7 : (slots : Int) < 0
          · skip
            refine l_of (s_not (wn1 rfl rfl rfl rfl (decide_eq_true hb7)) rfl rfl ?_)
            refine l_of (s_not (wn1 rfl rfl rfl rfl (decide_eq_true hb7)) rfl rfl ?_)
            refine l_of (s_val (v := .bool true) (wt0 rfl) rfl rfl (x_pick_t rfl rfl (decide_eq_true hb7) rfl) ?_)
            refine g_nil ?_
            refine g_then ?_
            refine g_weak [(0, .int .i64 way), (1, .int .i64 round), (2, .int .i64 slots), (3, .string seed), (4, .slice p n c), (36, .bool true)] ⟨rfl, rfl, rfl, rfl, rfl, rfl, trivial⟩ ?_
            refine g_cond_t rfl rfl ?_
            refine g_seq ?_
            refine g_region ?_
            refine l_of (s_val (v := .slice none 0 0) (wt0 rfl) rfl rfl (x_assign rfl rfl) ?_)
            refine l_of (s_val (v := .int .i64 7) (wt0 rfl) rfl rfl (x_assign rfl rfl) ?_)
            refine g_nil ?_
            refine g_then ?_
            refine g_ret ?_
            refine g_then_ret ?_
            refine fin_ret [.tmp 10, .tmp 11] [.slice none 0 0, .int .i64 7] rfl ⟨rfl, rfl, trivial⟩ ?_
            have hv : (rndW way round slots seed l) = 7 := rndW_7 (by omega) (by omega)
            have hg : (gotW way round slots seed l) = [] := by unfold gotW; rw [hv, if_neg (by decide)]
            rw [hg, hv]
            exact ⟨none, 0, rfl, fun hz => absurd hz (by decide), (H2.takes [0] (by decide)).nilFl 3 1 intL⟩
          · skip
            refine l_of (s_val (v := .int .i64 slots) (wt1 rfl rfl rfl rfl (decide_eq_false hb7)) rfl rfl (x_move rfl rfl) ?_)
            refine l_of (s_val (v := .bool (decide ((100 : Int) < slots))) (wt1 rfl rfl rfl rfl (decide_eq_false hb7)) rfl rfl (x_bin rfl rfl rfl b_gtr) ?_)
            refine l_of (s_val (v := .bool (decide ((100 : Int) < slots))) (wt0 rfl) rfl rfl (x_pick_f rfl rfl (decide_eq_false hb7) rfl) ?_)
            refine g_nil ?_
            refine g_then ?_
            refine g_weak [(0, .int .i64 way), (1, .int .i64 round), (2, .int .i64 slots), (3, .string seed), (4, .slice p n c), (36, .bool (decide ((100 : Int) < slots)))] ⟨rfl, rfl, rfl, rfl, rfl, rfl, trivial⟩ ?_
            by_cases hb8 : (100 : Int) < slots
            · skip
              refine g_cond_t rfl (decide_eq_true hb8) ?_
              refine g_seq ?_
              refine g_region ?_
              refine l_of (s_val (v := .slice none 0 0) (wt0 rfl) rfl rfl (x_assign rfl rfl) ?_)
              refine l_of (s_val (v := .int .i64 7) (wt0 rfl) rfl rfl (x_assign rfl rfl) ?_)
              refine g_nil ?_
              refine g_then ?_
              refine g_ret ?_
              refine g_then_ret ?_
              refine fin_ret [.tmp 10, .tmp 11] [.slice none 0 0, .int .i64 7] rfl ⟨rfl, rfl, trivial⟩ ?_
              have hv : (rndW way round slots seed l) = 7 := rndW_7 (by omega) (by omega)
              have hg : (gotW way round slots seed l) = [] := by unfold gotW; rw [hv, if_neg (by decide)]
              rw [hg, hv]
              exact ⟨none, 0, rfl, fun hz => absurd hz (by decide), (H2.takes [0] (by decide)).nilFl 3 1 intL⟩
            · skip
              refine g_cond_f rfl (decide_eq_false hb8) ?_
              refine g_skip ?_
              refine g_then ?_
              refine g_seq ?_
              refine g_region ?_
              refine l_of (s_val (v := .int .i64 way) (wt0 rfl) rfl rfl (x_move rfl rfl) ?_)
              refine l_of (s_val (v := .int .i64 round) (wt0 rfl) rfl rfl (x_move rfl rfl) ?_)
              refine l_of (s_val (v := .int .i64 slots) (wt0 rfl) rfl rfl (x_move rfl rfl) ?_)
              refine l_of (s_val (v := .string seed) (wt0 rfl) rfl rfl (x_move rfl rfl) ?_)
              refine l_of (s_val (v := .slice p n c) (wt0 rfl) rfl rfl (x_move rfl rfl) ?_)
              have hask : askE seed l = 0 := by omega
              have hval := (askE_ok hask).2.1
              have hnd := (askE_ok hask).2.2
              have hs100 := askE_size hask
              refine l_of (s_call (wt0 rfl) (x_call' rfl rfl cl23) (let_r way (by omega) round slots seed (by omega) ⟨by omega, hro.2⟩ (by omega) l p n c hn2 hval hnd _ (H2.exReads (k := 0) rfl hr (fun _ _ _ h => h)) (H2.tab (k := 0) rfl ht)) ?_)
              rintro _ wq9 ⟨pd, cd, rfl, hok, H10⟩
              replace H10 : S wq9 [Rw 3 1 pd ((idsW way round slots seed l).length) cd (fl intL (idsW way round slots seed l)), Old w no] := H2.absorb (new := [Rw 3 1 pd ((idsW way round slots seed l).length) cd (fl intL (idsW way round slots seed l))]) H10
              refine b_ret rfl rfl ?_
              refine l_of (s_val (v := .slice pd ((idsW way round slots seed l).length) cd) (wt0 rfl) rfl rfl (x_assign rfl rfl) ?_)
              refine l_of (s_val (v := .int .i64 0) (wt0 rfl) rfl rfl (x_assign rfl rfl) ?_)
              refine g_nil ?_
              refine g_then ?_
              refine g_weak [(10, .slice pd ((idsW way round slots seed l).length) cd), (11, .int .i64 0)] ⟨rfl, rfl, trivial⟩ ?_
              refine g_ret ?_
              refine fin_ret [.tmp 10, .tmp 11] [.slice pd ((idsW way round slots seed l).length) cd, .int .i64 0] rfl ⟨rfl, rfl, trivial⟩ ?_
              have hv : (rndW way round slots seed l) = 0 := rndW_0 (by omega) (by omega)
              have hg : (gotW way round slots seed l) = (idsW way round slots seed l) := by unfold gotW; rw [hv, if_pos rfl]
              rw [hg, hv]
              exact ⟨_, _, rfl, fun _ => hok, H10.takes [0, 1] (by decide)⟩
  · skip
    refine g_cond_t rfl (nt hb3) ?_
    refine g_seq ?_
    refine g_region ?_
    refine l_of (s_val (v := .int .i64 ((askE seed l))) (wt0 rfl) rfl rfl (x_move rfl rfl) ?_)
    refine l_of (s_val (v := .slice none 0 0) (wt0 rfl) rfl rfl (x_assign rfl rfl) ?_)
    refine l_of (s_val (v := .int .i64 ((askE seed l))) (wt0 rfl) rfl rfl (x_assign rfl rfl) ?_)
    refine g_nil ?_
    refine g_then ?_
    refine g_weak [(10, .slice none 0 0), (11, .int .i64 ((askE seed l)))] ⟨rfl, rfl, trivial⟩ ?_
    refine g_ret ?_
    refine g_then_ret ?_
    refine fin_ret [.tmp 10, .tmp 11] [.slice none 0 0, .int .i64 ((askE seed l))] rfl ⟨rfl, rfl, trivial⟩ ?_
    have hv : (rndW way round slots seed l) = (askE seed l) := rndW_a hb3
    have hg : (gotW way round slots seed l) = [] := by unfold gotW; rw [hv, if_neg hb3]
    rw [hg, hv]
    exact ⟨none, 0, rfl, fun hz => absurd hz hb3, (H2.takes [0] (by decide)).nilFl 3 1 intL⟩
theorem inter_any (way : Int) (l : List Rv) (p : Option Addr) (n c : Nat) (hn2 : n ≤ 1000) (w : World) (hr : Reads w p n c 10 (fl rvL l)) : Calls Tryz.prog 16 #[.int .i64 way, .slice p n c] w fun e w' => ∃ p' c', e = .returned (.slice p' (ableW way l).length c') ∧ S w' ([Rw 30 10 p' (ableW way l).length c' (fl rvL (ableW way l))] ++ [Old w no]) := by
  unfold ableW
  by_cases h : way = 3
  · subst h
    rw [if_pos rfl]
    exact inter3_r l p n c hn2 w hr
  · rw [if_neg h]
    exact interw_r way h l p n c hn2 w hr
end Go.Proofs.YthfglkkjkpdkpaaGreatDoor
namespace Go.Proofs.YthfglkkjkpdkpaaGreatDoor
open Go.RowKit

theorem cl10 : callable Tryz.prog 10 = true := by kernel_rfl
theorem cl11 : callable Tryz.prog 11 = true := by kernel_rfl
theorem cl12 : callable Tryz.prog 12 = true := by kernel_rfl
theorem cl13 : callable Tryz.prog 13 = true := by kernel_rfl
theorem cl6 : callable Tryz.prog 6 = true := by kernel_rfl
theorem cl7 : callable Tryz.prog 7 = true := by kernel_rfl
theorem is_nxt {L : List Rv} {b : Nat} {x : Int} {is is2 : Bool} {y : Rv} (h : is = true ↔ ∃ z ∈ L.take b, z.id = x) (hy : L[b]? = some y) (h2 : is2 = true ↔ (is = true ∨ y.id = x)) : is2 = true ↔ ∃ z ∈ L.take (b + 1), z.id = x := by
  rw [h2, h, take_snocL hy]
  constructor
  · rintro (⟨z, h3, h4⟩ | h3)
    · exact ⟨z, List.mem_append_left _ h3, h4⟩
    · exact ⟨y, List.mem_append_right _ (List.mem_singleton.2 rfl), h3⟩
  · rintro ⟨z, h3, h4⟩
    rcases List.mem_append.1 h3 with h3 | h3
    · exact .inl ⟨z, h3, h4⟩
    · rw [List.mem_singleton] at h3; subst h3; exact .inr h4
theorem rndW_ok {way round slots : Int} {seed : ByteArray} {l : List Rv} (h : rndW way round slots seed l = 0) : 0 ≤ slots := by
  by_cases h1 : askE seed l = 0
  · by_cases h2 : way < 1 ∨ 4 < way ∨ round < 0 ∨ slots < 0 ∨ 100 < slots
    · rw [rndW_7 h1 h2] at h; cases h
    · omega
  · rw [rndW_a h1] at h; exact absurd h h1
theorem able_len (way : Int) (l : List Rv) : (ableW way l).length ≤ l.length := by
  unfold ableW; split <;> exact List.length_filter_le _ _
theorem got_len {way round slots : Int} {seed : ByteArray} {l : List Rv} (h : rndW way round slots seed l = 0 → IdsOK slots (ableW way l) (gotW way round slots seed l)) : (gotW way round slots seed l).length ≤ l.length := by
  by_cases hz : rndW way round slots seed l = 0
  · have h1 := (h hz).1
    have h2 := able_len way l
    omega
  · unfold gotW; rw [if_neg hz]; exact Nat.zero_le _
set_option maxRecDepth 20000 in
set_option maxHeartbeats 4000000 in
theorem rounds_law (way round slots : Int) (hro : okI round) (hsi : okI slots) (seed : ByteArray) (l : List Rv) (p : Option Addr) (n c : Nat) (hn2 : n ≤ 9223372036854775807)  (w : World) (hr : Reads w p n c 10 (fl rvL l)) (ht : PowTab w) : Calls Tryz.prog 5 #[.int .i64 way, .int .i64 round, .int .i64 slots, .string seed, .slice p n c] w fun e w' => e = .returned (.bool true) ∧ S w' [Old w no] := by
 have H0 := S.old w
 have hnl := hr.lenL rvE
 have hab := able_len way l
 have hol := optL_len round seed l
 have hov : (optV round seed l).length ≤ (optL round seed l).length := by
  unfold optV; split
  · rw [List.length_map]; exact Nat.le_refl _
  · exact Nat.zero_le _
 refine enter 148 Tryz.func5 rfl rfl rfl ?_
 refine g_weak [(0, .int .i64 way), (1, .int .i64 round), (2, .int .i64 slots), (3, .string seed), (4, .slice p n c)] ⟨rfl, rfl, rfl, rfl, rfl, trivial⟩ ?_
 refine w_s ?_
 refine w_a ?_
 refine w_e ?_
 refine g_seq ?_
 refine w_s ?_
 refine w_m ?_
 refine w_v (v := .int .i64 ((n : Int))) (x_lenl rfl rfl Tryz.underlying22) ?_
 refine w_b ?_
 refine w_m ?_
 by_cases hb1 : (30 : Int) < (n : Int)
 ·
  refine w_n (decide_eq_true hb1) ?_
  refine w_n (decide_eq_true hb1) ?_
  refine w_n (decide_eq_true hb1) ?_
  refine w_v (v := .bool true) (x_pick_t rfl rfl (decide_eq_true hb1) rfl) ?_
  refine w_e ?_
  refine g_cond_t rfl rfl ?_
  refine w_s ?_
  refine l_of (s_call0 H0 (wt0 rfl) (x_call' rfl rfl cl6) (awake_s _) rfl rfl ?_)
  intro wq2 H3
  refine w_a ?_
  refine w_e ?_
  refine g_weak [(10, .bool true)] ⟨rfl, trivial⟩ ?_
  refine g_ret ?_
  refine g_then_ret ?_
  refine fin_ret [.tmp 10] [.bool true] rfl ⟨rfl, trivial⟩ ?_
  exact ⟨rfl, H3.mask [true]⟩
 ·
  refine w_g (decide_eq_false hb1) xm ?_
  refine w_g (v := .int .i64 ((seed.size : Int))) (decide_eq_false hb1) (x_lens rfl rfl Tryz.underlying9) ?_
  refine w_g (decide_eq_false hb1) (x_bin rfl rfl rfl b_gtr) ?_
  refine w_v (v := .bool (decide ((200 : Int) < (seed.size : Int)))) (x_pick_f rfl rfl (decide_eq_false hb1) rfl) ?_
  refine w_e ?_
  by_cases hb4 : (200 : Int) < (seed.size : Int)
  ·
   refine g_cond_t rfl (decide_eq_true hb4) ?_
   refine w_s ?_
   refine l_of (s_call0 H0 (wt0 rfl) (x_call' rfl rfl cl6) (awake_s _) rfl rfl ?_)
   intro wq5 H6
   refine w_a ?_
   refine w_e ?_
   refine g_weak [(10, .bool true)] ⟨rfl, trivial⟩ ?_
   refine g_ret ?_
   refine g_then_ret ?_
   refine fin_ret [.tmp 10] [.bool true] rfl ⟨rfl, trivial⟩ ?_
   exact ⟨rfl, H6.mask [true]⟩
  ·
   refine g_cond_f rfl (decide_eq_false hb4) ?_
   refine g_skip ?_
   refine g_then ?_
   refine w_s ?_
   refine w_r5 ?_
   refine l_of (s_call (wt0 rfl) (x_call' rfl rfl cl7) (roundW_s way round slots seed l p n c (by omega) hro _ (H0.exReads (k := 0) rfl hr (fun _ _ _ h => h)) (H0.tab (k := 0) rfl ht)) ?_)
   rintro _ wq9 ⟨pd7, cd8, rfl, H10⟩
   replace H10 : S wq9 [Rw 3 1 pd7 ((gotW way round slots seed l).length) cd8 (fl intL (gotW way round slots seed l)), Old w no] := by have h := H0.absorb H10; exact h
   refine b_ret rfl rfl ?_
   refine w_r5 ?_
   refine w_e ?_
   refine g_weak [(0, .int .i64 way), (1, .int .i64 round), (2, .int .i64 slots), (3, .string seed), (4, .slice p n c), (11, .slice pd7 ((gotW way round slots seed l).length) cd8), (12, .int .i64 ((rndW way round slots seed l)))] ⟨rfl, rfl, rfl, rfl, rfl, rfl, rfl, trivial⟩ ?_
   refine w_s ?_
   refine w_r5 ?_
   refine l_of (s_call (wt0 rfl) (x_call' rfl rfl cl10) (roundW_r way round slots seed l p n c (by omega) hro _ (H10.exReads (k := 1) rfl hr (fun _ _ _ h => h)) (H10.tab (k := 1) rfl ht)) ?_)
   rintro _ wq13 ⟨pd11, cd12, rfl, hok, H14⟩
   replace H14 : S wq13 [Rw 3 1 pd11 ((gotW way round slots seed l).length) cd12 (fl intL (gotW way round slots seed l)), Rw 3 1 pd7 ((gotW way round slots seed l).length) cd8 (fl intL (gotW way round slots seed l)), Old w no] := by have h := H10.absorb H14; exact h
   have hgl := got_len hok
   refine b_ret rfl rfl ?_
   refine w_r5 ?_
   refine w_e ?_
   refine g_seq ?_
   refine w_s ?_
   refine w_r2 ?_
   refine w_b (v := .bool (!decide (((rndW way round slots seed l) : Int) = (rndW way round slots seed l)))) (hb := b_neq) ?_
   refine w_m ?_
   refine w_g (nf rfl) xm ?_
   refine w_g (nf rfl) xm ?_
   refine l_of (s_call0 H14 (wt1 rfl rfl rfl rfl (nf rfl)) (x_call' rfl rfl cl11) (same_i (gotW way round slots seed l) (by omega) pd7 ((gotW way round slots seed l).length) cd8 pd11 ((gotW way round slots seed l).length) cd12 _ (H14.rwReads (k := 1) rfl) (H14.rwReads (k := 0) rfl)) rfl rfl ?_)
   intro wq15 H16
   refine w_g (v := .bool false) (nf rfl) (x_not (b := true) rfl rfl) ?_
   refine w_v (v := .bool false) (x_pick_f rfl rfl (nf rfl) rfl) ?_
   refine w_e ?_
   refine g_weak [(0, .int .i64 way), (1, .int .i64 round), (2, .int .i64 slots), (3, .string seed), (4, .slice p n c), (11, .slice pd7 ((gotW way round slots seed l).length) cd8), (12, .int .i64 ((rndW way round slots seed l))), (62, .bool false)] ⟨rfl, rfl, rfl, rfl, rfl, rfl, rfl, rfl, trivial⟩ ?_
   refine g_cond_f rfl rfl ?_
   refine g_skip ?_
   refine g_then ?_
   refine w_s ?_
   refine w_r3 ?_
   refine l_of (s_call (wt0 rfl) (x_call' rfl rfl cl12) (Optimistic_s round hro seed l p n c (by omega) _ (H16.exReads (k := 2) rfl hr (fun _ _ _ h => h)) (H16.tab (k := 2) rfl ht)) ?_)
   rintro _ wq19 ⟨pd17, cd18, rfl, H20⟩
   replace H20 : S wq19 [Rw 3 1 pd17 ((optV round seed l).length) cd18 (fl intL (optV round seed l)), Rw 3 1 pd11 ((gotW way round slots seed l).length) cd12 (fl intL (gotW way round slots seed l)), Rw 3 1 pd7 ((gotW way round slots seed l).length) cd8 (fl intL (gotW way round slots seed l)), Old w no] := by have h := H16.absorb H20; exact h
   refine b_ret rfl rfl ?_
   refine w_r5 ?_
   refine w_e ?_
   refine w_s ?_
   refine w_r3 ?_
   refine l_of (s_call (wt0 rfl) (x_call' rfl rfl cl13) (Optimistic_r round hro seed l p n c (by omega) _ (H20.exReads (k := 3) rfl hr (fun _ _ _ h => h)) (H20.tab (k := 3) rfl ht)) ?_)
   rintro _ wq23 ⟨pd21, cd22, rfl, H24⟩
   replace H24 : S wq23 [Rw 3 1 pd21 ((optV round seed l).length) cd22 (fl intL (optV round seed l)), Rw 3 1 pd17 ((optV round seed l).length) cd18 (fl intL (optV round seed l)), Rw 3 1 pd11 ((gotW way round slots seed l).length) cd12 (fl intL (gotW way round slots seed l)), Rw 3 1 pd7 ((gotW way round slots seed l).length) cd8 (fl intL (gotW way round slots seed l)), Old w no] := by have h := H20.absorb H24; exact h
   refine b_ret rfl rfl ?_
   refine w_r5 ?_
   refine w_e ?_
   refine g_weak [(0, .int .i64 way), (2, .int .i64 slots), (4, .slice p n c), (11, .slice pd7 ((gotW way round slots seed l).length) cd8), (12, .int .i64 ((rndW way round slots seed l))), (15, .slice pd17 ((optV round seed l).length) cd18), (16, .int .i64 ((optE round seed l))), (17, .slice pd21 ((optV round seed l).length) cd22), (18, .int .i64 ((optE round seed l)))] ⟨rfl, rfl, rfl, rfl, rfl, rfl, rfl, rfl, rfl, trivial⟩ ?_
   refine g_seq ?_
   refine w_s ?_
   refine w_r2 ?_
   refine w_b (v := .bool (!decide (((optE round seed l) : Int) = (optE round seed l)))) (hb := b_neq) ?_
   refine w_m ?_
   refine w_g (nf rfl) xm ?_
   refine w_g (nf rfl) xm ?_
   refine l_of (s_call0 H24 (wt1 rfl rfl rfl rfl (nf rfl)) (x_call' rfl rfl cl11) (same_i (optV round seed l) (by omega) pd17 ((optV round seed l).length) cd18 pd21 ((optV round seed l).length) cd22 _ (H24.rwReads (k := 1) rfl) (H24.rwReads (k := 0) rfl)) rfl rfl ?_)
   intro wq25 H26
   refine w_g (v := .bool false) (nf rfl) (x_not (b := true) rfl rfl) ?_
   refine w_v (v := .bool false) (x_pick_f rfl rfl (nf rfl) rfl) ?_
   refine w_e ?_
   refine g_weak [(0, .int .i64 way), (2, .int .i64 slots), (4, .slice p n c), (11, .slice pd7 ((gotW way round slots seed l).length) cd8), (12, .int .i64 ((rndW way round slots seed l))), (85, .bool false)] ⟨rfl, rfl, rfl, rfl, rfl, rfl, trivial⟩ ?_
   refine g_cond_f rfl rfl ?_
   refine g_skip ?_
   refine g_then ?_
   refine g_seq ?_
   refine w_s ?_
   refine w_m ?_
   refine w_v (v := .int .i64 ((n : Int))) (x_lenl rfl rfl Tryz.underlying22) ?_
   refine w_m ?_
   refine w_e ?_
   refine g_block ?_
   refine g_loop (ι := Nat) (fun i => [(0, .int .i64 way), (2, .int .i64 slots), (4, .slice p n c), (11, .slice pd7 ((gotW way round slots seed l).length) cd8), (12, .int .i64 ((rndW way round slots seed l))), (86, .slice p n c), (87, .int .i64 ((n : Int))), (88, .int .i64 ((i : Int)))]) (fun i wx => (i ≤ n) ∧ S wx [Rw 3 1 pd7 ((gotW way round slots seed l).length) cd8 (fl intL (gotW way round slots seed l)), Old w no]) (fun i => n - i) (0) ⟨rfl, rfl, rfl, rfl, rfl, rfl, rfl, rfl, trivial⟩ ⟨Nat.zero_le _, (H26.takes [3, 4] (by decide))⟩ ?_
   rintro i wq27 ⟨hi, H28⟩
   refine g_weak [(0, .int .i64 way), (2, .int .i64 slots), (4, .slice p n c), (11, .slice pd7 ((gotW way round slots seed l).length) cd8), (12, .int .i64 ((rndW way round slots seed l))), (86, .slice p n c), (87, .int .i64 ((n : Int))), (88, .int .i64 ((i : Int)))] ⟨rfl, rfl, rfl, rfl, rfl, rfl, rfl, rfl, trivial⟩ ?_
   refine w_s ?_
   refine w_b ?_
   refine w_e ?_
   refine g_seq ?_
   by_cases hb29 : ((i : Int) : Int) < (n : Int)
   ·
    refine g_cond_t rfl (decide_eq_true hb29) ?_
    refine g_skip ?_
    refine g_then ?_
    refine g_seq ?_
    refine g_block ?_
    refine w_s ?_
    refine w_v (v := .pointer ((p).map fun q => q.add (i * 10))) (x_idxR i (H28.exReads (k := 1) rfl hr (fun _ _ _ h => h)) rfl rfl rfl Tryz.underlying22 sz30 (by omega)) ?_
    have hlq := (H28.exReads (k := 1) rfl hr (fun _ _ _ h => h)).lenL rvE
    obtain ⟨x30, hx30⟩ := ex_at (l := l) (j := i) (by omega)
    clear hlq
    refine w_v (v := .agg #[.int .i64 (x30.id), .bool x30.intr, .bool x30.chk, .int .i64 (x30.frm), .int .i64 (x30.to), .int .i64 (x30.lt), .int .i64 (x30.since), .bool x30.snb, .bool x30.now, .bool x30.seed]) (x_loadRA (vs := rvL x30) i (H28.exReads (k := 1) rfl hr (fun _ _ _ h => h)) (by omega) rfl rfl Tryz.underlying30 rfl sz30 (by rfl) (rvE.flAt hx30)) ?_
    refine l_of (s_alloc H28 (wt0 rfl) rfl rfl rfl ze30 ?_)
    intro g31 wq32 H33
    refine l_of (w_st #[.int .i64 (x30.id), .bool x30.intr, .bool x30.chk, .int .i64 (x30.frm), .int .i64 (x30.to), .int .i64 (x30.lt), .int .i64 (x30.since), .bool x30.snb, .bool x30.now, .bool x30.seed] H33 0 ?_)
    intro wq34 H35
    refine w_e ?_
    refine g_seq ?_
    refine g_any [] (fun wx => S wx [Ob g31 (.cells #[.int .i64 (x30.id), .bool x30.intr, .bool x30.chk, .int .i64 (x30.frm), .int .i64 (x30.to), .int .i64 (x30.lt), .int .i64 (x30.since), .bool x30.snb, .bool x30.now, .bool x30.seed] 30 (0, 0))]) [] (by kernel_rfl) H35 (fun wq36 H37 => ?_)
    refine w_t (v := .agg #[.int .i64 (x30.id), .bool x30.intr, .bool x30.chk, .int .i64 (x30.frm), .int .i64 (x30.to), .int .i64 (x30.lt), .int .i64 (x30.since), .bool x30.snb, .bool x30.now, .bool x30.seed]) 0 rfl (H37.mask [true, false, false]) (fun _ H => x_loadA H 0 rfl rfl Tryz.underlying30 rfl sz30 rfl rfl rfl) ?_
    refine w_t (v := .agg #[.int .i64 (x30.id), .bool x30.intr, .bool x30.chk, .int .i64 (x30.frm), .int .i64 (x30.to), .int .i64 (x30.lt), .int .i64 (x30.since), .bool x30.snb, .bool x30.now, .bool x30.seed]) 2 rfl (H37.mask [true, false, false]) (fun _ H => x_loadA H 0 rfl rfl Tryz.underlying30 rfl sz30 rfl rfl rfl) ?_
    refine a_one (i := 1) (by kernel_rfl) rfl ?_
    refine s_call0 H37 (wt0 rfl) (x_call' rfl rfl cl14) (valid_s x30 _) rfl rfl ?_
    intro wq38 H39
    refine a_k (H39.mask [true, false, false]) ?_
    refine a_one (i := 3) (by kernel_rfl) rfl ?_
    refine s_call0 H39 (wt0 rfl) (x_call' rfl rfl cl15) (valid_r x30 _) rfl rfl ?_
    intro wq40 H41
    refine a_k (H41.mask [true, false, false]) ?_
    refine w_t (v := .bool (!(((validR x30)) == ((validR x30))))) 4 rfl (H41.mask [true, false, false]) (fun _ _ => x_bin rfl rfl rfl (b_neN Tryz.underlying4 rfl)) ?_
    refine a_done (by kernel_rfl) ?_
    refine g_then ?_
    refine g_cond_f rfl (neg_of (beq_self_eq_true ((validR x30)))) ?_
    refine g_skip ?_
    refine g_in ?_
    refine g_then ?_
    refine g_region ?_
    refine w_b (v := .int .i64 (((i + 1 : Nat) : Int))) (hb := (b_add (by rw [w64 (by omega)]; omega))) ?_
    refine w_m ?_
    refine w_e ?_
    refine g_round (i := (i)) ((i + 1)) ?_ ?_ ?_
    · exact ⟨rfl, rfl, rfl, rfl, rfl, rfl, rfl, rfl, trivial⟩
    · exact ⟨by omega, (H41.takes [1, 2] (by decide))⟩
    · (try dsimp only); omega
   ·
    refine g_cond_f rfl (decide_eq_false hb29) ?_
    refine g_exit ?_
    refine g_then_exit ?_
    refine g_then_exit ?_
    refine g_in_hit ?_
    refine g_then ?_
    refine g_seq ?_
    refine w_s ?_
    refine w_m ?_
    refine w_b (v := .bool (!decide (((rndW way round slots seed l) : Int) = 0))) (hb := b_neq) ?_
    refine w_e ?_
    by_cases hb42 : ((rndW way round slots seed l) : Int) = 0
    ·
     refine g_cond_f rfl (nf hb42) ?_
     refine g_skip ?_
     refine g_then ?_
     refine w_s ?_
     refine w_r2 ?_
     refine l_of (s_call (wt0 rfl) (x_call' rfl rfl cl16) (inter_any way l p n c (by omega) _ (H28.exReads (k := 1) rfl hr (fun _ _ _ h => h))) ?_)
     rintro _ wq43 ⟨pb, cb, rfl, H44⟩
     replace H44 : S wq43 [Rw 30 10 pb ((ableW way l).length) cb (fl rvL (ableW way l)), Rw 3 1 pd7 ((gotW way round slots seed l).length) cd8 (fl intL (gotW way round slots seed l)), Old w no] := by have h := H28.absorb H44; exact h
     refine b_ret rfl rfl ?_
     refine w_a ?_
     refine w_e ?_
     refine g_weak [(2, .int .i64 slots), (11, .slice pd7 ((gotW way round slots seed l).length) cd8), (21, .slice pb ((ableW way l).length) cb)] ⟨rfl, rfl, rfl, trivial⟩ ?_
     refine g_seq ?_
     refine w_s ?_
     refine w_m ?_
     refine w_v (v := .int .i64 (((gotW way round slots seed l).length : Int))) (x_lenl rfl rfl Tryz.underlying24) ?_
     refine w_m ?_
     refine w_b ?_
     refine w_m ?_
     by_cases hb45 : (slots : Int) < ((gotW way round slots seed l).length : Int)
     ·
      refine w_n (decide_eq_true hb45) ?_
      refine w_n (decide_eq_true hb45) ?_
      refine w_n (decide_eq_true hb45) ?_
      refine w_n (decide_eq_true hb45) ?_
      refine w_n (decide_eq_true hb45) ?_
      refine w_v (v := .bool true) (x_pick_t rfl rfl (decide_eq_true hb45) rfl) ?_
      refine w_m ?_
      refine w_n rfl ?_
      refine w_n rfl ?_
      refine w_n rfl ?_
      refine w_n rfl ?_
      refine w_n rfl ?_
      refine w_n rfl ?_
      refine w_n rfl ?_
      refine w_v (v := .bool true) (x_pick_t rfl rfl rfl rfl) ?_
      refine w_e ?_
      refine g_weak [(11, .slice pd7 ((gotW way round slots seed l).length) cd8), (21, .slice pb ((ableW way l).length) cb), (123, .bool true)] ⟨rfl, rfl, rfl, trivial⟩ ?_
      refine g_cond_t rfl rfl ?_
      refine w_s ?_
      refine w_a ?_
      refine w_e ?_
      refine g_ret ?_
      refine g_then_ret ?_
      refine fin_ret [.tmp 10] [.bool false] rfl ⟨rfl, trivial⟩ ?_
      exfalso
      have hk := (hok (by omega)).1
      have hs0 := rndW_ok (way := way) (round := round) (slots := slots) (seed := seed) (l := l) (by omega)
      omega
     ·
      refine w_g (decide_eq_false hb45) xm ?_
      refine w_g (v := .int .i64 (((gotW way round slots seed l).length : Int))) (decide_eq_false hb45) (x_lenl rfl rfl Tryz.underlying24) ?_
      refine w_g (decide_eq_false hb45) xm ?_
      refine w_g (v := .int .i64 (((ableW way l).length : Int))) (decide_eq_false hb45) (x_lenl rfl rfl Tryz.underlying22) ?_
      refine w_g (decide_eq_false hb45) (x_bin rfl rfl rfl b_gtr) ?_
      refine w_v (v := .bool (decide ((((ableW way l).length : Int) : Int) < ((gotW way round slots seed l).length : Int)))) (x_pick_f rfl rfl (decide_eq_false hb45) rfl) ?_
      refine w_m ?_
      by_cases hb46 : (((ableW way l).length : Int) : Int) < ((gotW way round slots seed l).length : Int)
      ·
       refine w_n (decide_eq_true hb46) ?_
       refine w_n (decide_eq_true hb46) ?_
       refine w_n (decide_eq_true hb46) ?_
       refine w_n (decide_eq_true hb46) ?_
       refine w_n (decide_eq_true hb46) ?_
       refine w_n (decide_eq_true hb46) ?_
       refine w_n (decide_eq_true hb46) ?_
       refine w_v (v := .bool true) (x_pick_t rfl rfl (decide_eq_true hb46) rfl) ?_
       refine w_e ?_
       refine g_weak [(11, .slice pd7 ((gotW way round slots seed l).length) cd8), (21, .slice pb ((ableW way l).length) cb), (123, .bool true)] ⟨rfl, rfl, rfl, trivial⟩ ?_
       refine g_cond_t rfl rfl ?_
       refine w_s ?_
       refine w_a ?_
       refine w_e ?_
       refine g_ret ?_
       refine g_then_ret ?_
       refine fin_ret [.tmp 10] [.bool false] rfl ⟨rfl, trivial⟩ ?_
       exfalso
       have hk := (hok (by omega)).1
       have hs0 := rndW_ok (way := way) (round := round) (slots := slots) (seed := seed) (l := l) (by omega)
       omega
      ·
       refine w_g (decide_eq_false hb46) xm ?_
       refine w_g (v := .int .i64 (((gotW way round slots seed l).length : Int))) (decide_eq_false hb46) (x_lenl rfl rfl Tryz.underlying24) ?_
       refine w_g (decide_eq_false hb46) xm ?_
       refine w_g (decide_eq_false hb46) xm ?_
       refine w_g (v := .int .i64 (((ableW way l).length : Int))) (decide_eq_false hb46) (x_lenl rfl rfl Tryz.underlying22) ?_
       refine w_g (v := .int .i64 (min slots ((ableW way l).length : Int))) (decide_eq_false hb46) (x_min rfl rfl rfl) ?_
       refine w_g (decide_eq_false hb46) (x_bin rfl rfl rfl b_lss) ?_
       refine w_v (v := .bool (decide ((((gotW way round slots seed l).length : Int) : Int) < min slots ((ableW way l).length : Int)))) (x_pick_f rfl rfl (decide_eq_false hb46) rfl) ?_
       refine w_e ?_
       refine g_weak [(11, .slice pd7 ((gotW way round slots seed l).length) cd8), (21, .slice pb ((ableW way l).length) cb), (123, .bool (decide ((((gotW way round slots seed l).length : Int) : Int) < min slots ((ableW way l).length : Int))))] ⟨rfl, rfl, rfl, trivial⟩ ?_
       by_cases hb47 : (((gotW way round slots seed l).length : Int) : Int) < min slots ((ableW way l).length : Int)
       ·
        refine g_cond_t rfl (decide_eq_true hb47) ?_
        refine w_s ?_
        refine w_a ?_
        refine w_e ?_
        refine g_ret ?_
        refine g_then_ret ?_
        refine fin_ret [.tmp 10] [.bool false] rfl ⟨rfl, trivial⟩ ?_
        exfalso
        have hk := (hok (by omega)).1
        have hs0 := rndW_ok (way := way) (round := round) (slots := slots) (seed := seed) (l := l) (by omega)
        omega
       ·
        refine g_cond_f rfl (decide_eq_false hb47) ?_
        refine g_skip ?_
        refine g_then ?_
        refine g_seq ?_
        refine w_s ?_
        refine w_m ?_
        refine w_v (v := .int .i64 (((gotW way round slots seed l).length : Int))) (x_lenl rfl rfl Tryz.underlying24) ?_
        refine w_m ?_
        refine w_e ?_
        refine g_block ?_
        refine g_loop (ι := Nat) (fun a => [(21, .slice pb ((ableW way l).length) cb), (124, .slice pd7 ((gotW way round slots seed l).length) cd8), (125, .int .i64 (((gotW way round slots seed l).length : Int))), (126, .int .i64 ((a : Int)))]) (fun a wx => (a ≤ (gotW way round slots seed l).length) ∧ S wx [Rw 3 1 pd7 ((gotW way round slots seed l).length) cd8 (fl intL (gotW way round slots seed l)), Rw 30 10 pb ((ableW way l).length) cb (fl rvL (ableW way l)), Old w no]) (fun a => ((gotW way round slots seed l).length) - a) (0) ⟨rfl, rfl, rfl, rfl, trivial⟩ ⟨Nat.zero_le _, (H44.takes [1, 0, 2] (by decide))⟩ ?_
        rintro a wq48 ⟨ha, H49⟩
        refine g_weak [(21, .slice pb ((ableW way l).length) cb), (124, .slice pd7 ((gotW way round slots seed l).length) cd8), (125, .int .i64 (((gotW way round slots seed l).length : Int))), (126, .int .i64 ((a : Int)))] ⟨rfl, rfl, rfl, rfl, trivial⟩ ?_
        refine w_s ?_
        refine w_b ?_
        refine w_e ?_
        refine g_seq ?_
        by_cases hb50 : ((a : Int) : Int) < ((gotW way round slots seed l).length : Int)
        ·
         refine g_cond_t rfl (decide_eq_true hb50) ?_
         refine g_skip ?_
         refine g_then ?_
         refine g_seq ?_
         refine g_block ?_
         refine w_s ?_
         refine w_v (v := .pointer ((pd7).map fun q => q.add (a * 1))) (x_idxR a (H49.rwReads (k := 0) rfl) rfl rfl rfl Tryz.underlying24 sz3 (by omega)) ?_
         have hlq := (H49.rwReads (k := 0) rfl).lenL intE
         obtain ⟨x51, hx51⟩ := ex_at (l := (gotW way round slots seed l)) (j := a) (by omega)
         clear hlq
         refine w_v (v := .int .i64 x51) (x_loadR1 a (H49.rwReads (k := 0) rfl) (by omega) rfl rfl Tryz.underlying3 rfl (intE.flAt1 hx51 rfl)) ?_
         refine w_a ?_
         refine w_e ?_
         refine w_s ?_
         refine w_a ?_
         refine w_e ?_
         refine g_seq ?_
         refine w_s ?_
         refine w_m ?_
         refine w_v (v := .int .i64 (((ableW way l).length : Int))) (x_lenl rfl rfl Tryz.underlying22) ?_
         refine w_m ?_
         refine w_e ?_
         refine g_block ?_
         refine g_loop (ι := Nat × Bool) (fun (b, is) => [(21, .slice pb ((ableW way l).length) cb), (23, .int .i64 x51), (24, .bool is), (124, .slice pd7 ((gotW way round slots seed l).length) cd8), (125, .int .i64 (((gotW way round slots seed l).length : Int))), (126, .int .i64 ((a : Int))), (130, .slice pb ((ableW way l).length) cb), (131, .int .i64 (((ableW way l).length : Int))), (132, .int .i64 ((b : Int)))]) (fun (b, is) wx => (b ≤ (ableW way l).length) ∧ (is = true ↔ ∃ z ∈ (ableW way l).take b, z.id = x51) ∧ S wx [Rw 3 1 pd7 ((gotW way round slots seed l).length) cd8 (fl intL (gotW way round slots seed l)), Rw 30 10 pb ((ableW way l).length) cb (fl rvL (ableW way l)), Old w no]) (fun (b, is) => ((ableW way l).length) - b) (0, false) ⟨rfl, rfl, rfl, rfl, rfl, rfl, rfl, rfl, rfl, trivial⟩ ⟨Nat.zero_le _, (by simp), (H49.takes [0, 1, 2] (by decide))⟩ ?_
         rintro ⟨b, is⟩ wq52 ⟨hb, his, H53⟩
         refine g_weak [(21, .slice pb ((ableW way l).length) cb), (23, .int .i64 x51), (24, .bool is), (124, .slice pd7 ((gotW way round slots seed l).length) cd8), (125, .int .i64 (((gotW way round slots seed l).length : Int))), (126, .int .i64 ((a : Int))), (130, .slice pb ((ableW way l).length) cb), (131, .int .i64 (((ableW way l).length : Int))), (132, .int .i64 ((b : Int)))] ⟨rfl, rfl, rfl, rfl, rfl, rfl, rfl, rfl, rfl, trivial⟩ ?_
         refine w_s ?_
         refine w_b ?_
         refine w_e ?_
         refine g_seq ?_
         by_cases hb54 : ((b : Int) : Int) < ((ableW way l).length : Int)
         ·
          refine g_cond_t rfl (decide_eq_true hb54) ?_
          refine g_skip ?_
          refine g_then ?_
          refine g_seq ?_
          refine g_block ?_
          refine w_s ?_
          refine w_v (v := .pointer ((pb).map fun q => q.add (b * 10))) (x_idxR b (H53.rwReads (k := 1) rfl) rfl rfl rfl Tryz.underlying22 sz30 (by omega)) ?_
          have hlq := (H53.rwReads (k := 1) rfl).lenL rvE
          obtain ⟨x55, hx55⟩ := ex_at (l := (ableW way l)) (j := b) (by omega)
          clear hlq
          refine w_v (v := .agg #[.int .i64 (x55.id), .bool x55.intr, .bool x55.chk, .int .i64 (x55.frm), .int .i64 (x55.to), .int .i64 (x55.lt), .int .i64 (x55.since), .bool x55.snb, .bool x55.now, .bool x55.seed]) (x_loadRA (vs := rvL x55) b (H53.rwReads (k := 1) rfl) (by omega) rfl rfl Tryz.underlying30 rfl sz30 (by rfl) (rvE.flAt hx55)) ?_
          refine l_of (s_alloc H53 (wt0 rfl) rfl rfl rfl ze30 ?_)
          intro g56 wq57 H58
          refine l_of (w_st #[.int .i64 (x55.id), .bool x55.intr, .bool x55.chk, .int .i64 (x55.frm), .int .i64 (x55.to), .int .i64 (x55.lt), .int .i64 (x55.since), .bool x55.snb, .bool x55.now, .bool x55.seed] H58 0 ?_)
          intro wq59 H60
          refine w_e ?_
          refine g_region ?_
          refine w_r2 ?_
          rcases Bool.eq_false_or_eq_true (is) with hb61 | hb61
          ·
           refine w_n hb61 ?_
           refine w_n hb61 ?_
           refine w_n hb61 ?_
           refine w_n hb61 ?_
           refine w_v (v := .bool true) (x_pick_t rfl rfl hb61 rfl) ?_
           refine w_a ?_
           refine g_nil ?_
           refine g_in ?_
           refine g_then ?_
           refine g_region ?_
           refine w_b (v := .int .i64 (((b + 1 : Nat) : Int))) (hb := (b_add (by rw [w64 (by omega)]; omega))) ?_
           refine w_m ?_
           refine w_e ?_
           refine g_round (i := (b, is)) ((b + 1), true) ?_ ?_ ?_
           · exact ⟨rfl, rfl, rfl, rfl, rfl, rfl, rfl, rfl, rfl, trivial⟩
           · exact ⟨by omega, (is_nxt his hx55 (by simp_all)), (H60.takes [1, 2, 3] (by decide))⟩
           · (try dsimp only); omega
          ·
           refine w_g hb61 (xf 0) ?_
           refine w_g hb61 (xl H60 0) ?_
           refine w_g hb61 xm ?_
           refine w_g hb61 (x_bin rfl rfl rfl b_eql) ?_
           refine w_v (v := .bool (decide ((x55.id : Int) = x51))) (x_pick_f rfl rfl hb61 rfl) ?_
           refine w_a ?_
           refine g_nil ?_
           refine g_in ?_
           refine g_then ?_
           refine g_region ?_
           refine w_b (v := .int .i64 (((b + 1 : Nat) : Int))) (hb := (b_add (by rw [w64 (by omega)]; omega))) ?_
           refine w_m ?_
           refine w_e ?_
           refine g_round (i := (b, is)) ((b + 1), (decide ((x55.id : Int) = x51))) ?_ ?_ ?_
           · exact ⟨rfl, rfl, rfl, rfl, rfl, rfl, rfl, rfl, rfl, trivial⟩
           · exact ⟨by omega, (is_nxt his hx55 (by simp_all)), (H60.takes [1, 2, 3] (by decide))⟩
           · (try dsimp only); omega
         ·
          refine g_cond_f rfl (decide_eq_false hb54) ?_
          refine g_exit ?_
          rw [List.take_of_length_le (by omega)] at his
          refine g_then_exit ?_
          refine g_then_exit ?_
          refine g_in_hit ?_
          refine g_then ?_
          refine w_s ?_
          refine w_m ?_
          refine w_v (v := .bool (!is)) (x_not (b := is) rfl rfl) ?_
          refine w_e ?_
          rcases Bool.eq_false_or_eq_true (is) with hb62 | hb62
          ·
           refine g_cond_f rfl (neg_of hb62) ?_
           refine g_skip ?_
           refine g_in ?_
           refine g_then ?_
           refine g_region ?_
           refine w_b (v := .int .i64 (((a + 1 : Nat) : Int))) (hb := (b_add (by rw [w64 (by omega)]; omega))) ?_
           refine w_m ?_
           refine w_e ?_
           refine g_round (i := (a)) ((a + 1)) ?_ ?_ ?_
           · exact ⟨rfl, rfl, rfl, rfl, trivial⟩
           · exact ⟨by omega, (H53.takes [0, 1, 2] (by decide))⟩
           · (try dsimp only); omega
          ·
           refine g_cond_t rfl (neg_of hb62) ?_
           refine w_s ?_
           refine w_a ?_
           refine w_e ?_
           refine g_weak [(10, .bool false)] ⟨rfl, trivial⟩ ?_
           refine g_ret ?_
           refine g_in_ret ?_
           refine g_then_ret ?_
           refine g_then_ret ?_
           refine g_in_ret ?_
           refine g_then_ret ?_
           refine fin_ret [.tmp 10] [.bool false] rfl ⟨rfl, trivial⟩ ?_
           exfalso
           obtain ⟨z, hz1, hz2⟩ := List.mem_map.1 ((hok (by omega)).2 _ (List.mem_of_getElem? hx51))
           exact absurd (his.2 ⟨z, hz1, hz2⟩) (by rw [hb62]; decide)
        ·
         refine g_cond_f rfl (decide_eq_false hb50) ?_
         refine g_exit ?_
         refine g_then_exit ?_
         refine g_then_exit ?_
         refine g_in_hit ?_
         refine g_then ?_
         refine w_s ?_
         refine l_of (s_call0 H49 (wt0 rfl) (x_call' rfl rfl cl6) (awake_s _) rfl rfl ?_)
         intro wq63 H64
         refine w_a ?_
         refine w_e ?_
         refine g_ret ?_
         refine fin_ret [.tmp 10] [.bool true] rfl ⟨rfl, trivial⟩ ?_
         exact ⟨rfl, H64.mask [false, false, true]⟩
    ·
     refine g_cond_t rfl (nt hb42) ?_
     refine w_s ?_
     refine l_of (s_call0 H28 (wt0 rfl) (x_call' rfl rfl cl6) (awake_s _) rfl rfl ?_)
     intro wq65 H66
     refine w_a ?_
     refine w_e ?_
     refine g_weak [(10, .bool true)] ⟨rfl, trivial⟩ ?_
     refine g_ret ?_
     refine g_then_ret ?_
     refine fin_ret [.tmp 10] [.bool true] rfl ⟨rfl, trivial⟩ ?_
     exact ⟨rfl, H66.mask [false, true]⟩
end Go.Proofs.YthfglkkjkpdkpaaGreatDoor
