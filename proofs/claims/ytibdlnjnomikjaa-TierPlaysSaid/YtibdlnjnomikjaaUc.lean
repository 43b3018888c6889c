import Derived.Test.YtibdlnjnomikjaaFk
import Derived.Test.YtibdlnjnomikjaaUb
set_option linter.unusedSimpArgs false
set_option linter.unusedVariables false
namespace Go.Proofs.Ytibdlnjnomikjaa
open Go.RowKit

theorem cl62 : callable Try.prog 62 = true := by kernel_rfl
theorem cl63 : callable Try.prog 63 = true := by kernel_rfl
theorem fo34_0 : foO Try.prog 34 0 = some 0 := by kernel_rfl
theorem fo34_1 : foO Try.prog 34 1 = some 1 := by kernel_rfl
theorem fo84_2 : foO Try.prog 84 2 = some 2 := by kernel_rfl
theorem fo84_3 : foO Try.prog 84 3 = some 3 := by kernel_rfl
theorem fo84_4 : foO Try.prog 84 4 = some 4 := by kernel_rfl
set_option maxRecDepth 20000 in
set_option maxHeartbeats 4000000 in
theorem ended_r {g C : Nat} {P : Option Addr} {rs : List (Ro Tk)} {now ev hol : Int} {nm : ByteArray} {und beg who dne stp : Bool} (hrs : rs.length ≤ 20) (hrl : ∀ r ∈ rs, r.l.length ≤ 20) {n : Int} {bad : Bool} (hpl : und = true → (RPS rs now und nm ev beg who dne stp hol).place nm ≠ none)  (w : World) (HS : S w [Ob g (.cells #[.slice P rs.length C, .int .i64 now, .bool und, .string nm, .int .i64 ev, .bool beg, .bool who, .bool dne, .bool stp, .int .i64 hol] 84 (0, 0)), Rw 85 1 P rs.length C (fl rowL rs), RowsI 87 5 tkL rs]) : Calls Try.prog 61 #[.pointer (some ⟨g, 0, none⟩), .int .i64 n, .bool bad] w fun e w' => (∃ k, e = .returned (.tuple #[.int .i64 0, .int .i64 0, .int .i64 k]) ∧ k ≠ 0 ∧ k = (if tellS now n ≠ 0 then 7 else if bad = true then 7 else if und = true then 0 else 8) ∧ S w' ([Ob g (.cells #[.slice P rs.length C, .int .i64 now, .bool und, .string nm, .int .i64 ev, .bool beg, .bool who, .bool dne, .bool stp, .int .i64 hol] 84 (0, 0)), Rw 85 1 P rs.length C (fl rowL rs), RowsI 87 5 tkL rs] ++ [Old w (fps [Ob g (.cells #[.slice P rs.length C, .int .i64 now, .bool und, .string nm, .int .i64 ev, .bool beg, .bool who, .bool dne, .bool stp, .int .i64 hol] 84 (0, 0)), Rw 85 1 P rs.length C (fl rowL rs), RowsI 87 5 tkL rs])])) ∨ (∃ (i k : Nat) (r : Ro Tk) (x : Tk), tellS now n = 0 ∧ bad = false ∧ und = true ∧ rs[i]? = some r ∧ r.l[k]? = some x ∧ (RPS rs now und nm ev beg who dne stp hol).place nm = some (i, k, x) ∧ e = .returned (.tuple #[.int .i64 (i : Int), .int .i64 (k : Int), .int .i64 0]) ∧ S w' ([Ob g (.cells #[.slice P rs.length C, .int .i64 n, .bool false, .string nm, .int .i64 ev, .bool beg, .bool who, .bool dne, .bool stp, .int .i64 hol] 84 (0, 0)), Rw 85 1 P rs.length C (fl rowL rs), RowsI 87 5 tkL rs] ++ [Old w (fps [Ob g (.cells #[.slice P rs.length C, .int .i64 now, .bool und, .string nm, .int .i64 ev, .bool beg, .bool who, .bool dne, .bool stp, .int .i64 hol] 84 (0, 0)), Rw 85 1 P rs.length C (fl rowL rs), RowsI 87 5 tkL rs])])) := by
 have H0 := HS.beginI
 refine enter 51 Try.func61 rfl rfl rfl ?_
 refine g_weak [(0, .pointer (some ⟨g, 0, none⟩)), (1, .int .i64 n), (2, .bool bad)] ⟨rfl, rfl, rfl, trivial⟩ ?_
 refine w_s ?_
 refine w_r3 ?_
 refine w_e ?_
 refine g_seq ?_
 refine w_s ?_
 refine w_m ?_
 refine w_b (v := .bool false) (hb := (b_eqN (r := false) Try.underlying48 rfl)) ?_
 refine w_e ?_
 refine g_cond_f rfl rfl ?_
 refine g_skip ?_
 refine g_then ?_
 refine g_seq ?_
 refine w_s ?_
 refine w_r4 ?_
 refine w_1 H0 0 ?_
 refine w_b ?_
 refine w_m ?_
 by_cases hb1 : (n : Int) < now
 ·
  refine w_n (decide_eq_true hb1) ?_
  refine w_n (decide_eq_true hb1) ?_
  refine w_v (v := .bool true) (x_pick_t rfl rfl (decide_eq_true hb1) rfl) ?_
  refine w_m ?_
  refine w_n rfl ?_
  refine w_v (v := .bool true) (x_pick_t rfl rfl rfl rfl) ?_
  refine w_e ?_
  refine g_weak [(0, .pointer (some ⟨g, 0, none⟩)), (1, .int .i64 n), (26, .bool true)] ⟨rfl, rfl, rfl, trivial⟩ ?_
  refine g_cond_t rfl rfl ?_
  refine w_s ?_
  refine w_r3 ?_
  refine w_e ?_
  refine g_ret ?_
  refine g_then_ret ?_
  refine fin_ret [.tmp 6, .tmp 7, .tmp 8] [.int .i64 0, .int .i64 0, .int .i64 7] rfl ⟨rfl, rfl, rfl, trivial⟩ ?_
  exact .inl ⟨_, rfl, by decide, by unfold tellS; simp [hb1] <;> (try omega) <;> (try (split <;> (first | rfl | omega))), H0.takes [0, 1, 2, 3] (by decide)⟩
 ·
  refine w_g (decide_eq_false hb1) xm ?_
  refine w_g (decide_eq_false hb1) (x_bin rfl rfl rfl b_gtr) ?_
  refine w_v (v := .bool (decide ((1000000000 : Int) < n))) (x_pick_f rfl rfl (decide_eq_false hb1) rfl) ?_
  refine w_m ?_
  by_cases hb2 : (1000000000 : Int) < n
  ·
   refine w_n (decide_eq_true hb2) ?_
   refine w_v (v := .bool true) (x_pick_t rfl rfl (decide_eq_true hb2) rfl) ?_
   refine w_e ?_
   refine g_weak [(0, .pointer (some ⟨g, 0, none⟩)), (1, .int .i64 n), (26, .bool true)] ⟨rfl, rfl, rfl, trivial⟩ ?_
   refine g_cond_t rfl rfl ?_
   refine w_s ?_
   refine w_r3 ?_
   refine w_e ?_
   refine g_ret ?_
   refine g_then_ret ?_
   refine fin_ret [.tmp 6, .tmp 7, .tmp 8] [.int .i64 0, .int .i64 0, .int .i64 7] rfl ⟨rfl, rfl, rfl, trivial⟩ ?_
   exact .inl ⟨_, rfl, by decide, by unfold tellS; simp [hb1, hb2] <;> (try omega) <;> (try (split <;> (first | rfl | omega))), H0.takes [0, 1, 2, 3] (by decide)⟩
  ·
   refine w_g (decide_eq_false hb2) xm ?_
   refine w_v (v := .bool bad) (x_pick_f rfl rfl (decide_eq_false hb2) rfl) ?_
   refine w_e ?_
   refine g_weak [(0, .pointer (some ⟨g, 0, none⟩)), (1, .int .i64 n), (26, .bool bad)] ⟨rfl, rfl, rfl, trivial⟩ ?_
   rcases Bool.eq_false_or_eq_true (bad) with hb3 | hb3
   ·
    refine g_cond_t rfl hb3 ?_
    refine w_s ?_
    refine w_r3 ?_
    refine w_e ?_
    refine g_ret ?_
    refine g_then_ret ?_
    refine fin_ret [.tmp 6, .tmp 7, .tmp 8] [.int .i64 0, .int .i64 0, .int .i64 7] rfl ⟨rfl, rfl, rfl, trivial⟩ ?_
    exact .inl ⟨_, rfl, by decide, by unfold tellS; simp [hb1, hb2, hb3] <;> (try omega) <;> (try (split <;> (first | rfl | omega))), H0.takes [0, 1, 2, 3] (by decide)⟩
   ·
    refine g_cond_f rfl hb3 ?_
    refine g_skip ?_
    refine g_then ?_
    refine g_seq ?_
    refine w_s ?_
    refine w_r3 ?_
    refine w_1 H0 0 ?_
    refine w_v (v := .bool (!und)) (x_not (b := und) rfl rfl) ?_
    refine w_e ?_
    rcases Bool.eq_false_or_eq_true (und) with hb4 | hb4
    ·
     refine g_cond_f rfl (neg_of hb4) ?_
     refine g_skip ?_
     refine g_then ?_
     refine w_s ?_
     refine w_r5 ?_
     refine l_of (w_st #[.slice P rs.length C, .int .i64 n, .bool und, .string nm, .int .i64 ev, .bool beg, .bool who, .bool dne, .bool stp, .int .i64 hol] H0 0 ?_)
     intro wq5 H6
     refine w_r2 ?_
     refine l_of (w_st #[.slice P rs.length C, .int .i64 n, .bool false, .string nm, .int .i64 ev, .bool beg, .bool who, .bool dne, .bool stp, .int .i64 hol] H6 0 ?_)
     intro wq7 H8
     refine w_e ?_
     refine g_weak [(0, .pointer (some ⟨g, 0, none⟩))] ⟨rfl, trivial⟩ ?_
     refine w_s ?_
     refine w_r4 ?_
     refine w_1 H8 0 ?_
     refine l_of (s_call (wt0 rfl) (x_call' rfl rfl cl62) (place_r hrs hrl (s := nm) _ (H8.takes [0, 1, 2] (by decide))) ?_)
     rintro ee17 wq15 hor18
     rcases hor18 with ⟨i9, k10, r11, x12, hr11, hx12, hfx13, rfl, H16⟩ | ⟨hno14, rfl, H16⟩
     ·
      replace H16 : S wq15 [Ob g (.cells #[.slice P rs.length C, .int .i64 n, .bool false, .string nm, .int .i64 ev, .bool beg, .bool who, .bool dne, .bool stp, .int .i64 hol] 84 (0, 0)), Rw 85 1 P rs.length C (fl rowL rs), RowsI 87 5 tkL rs, Old w (fps [Ob g (.cells #[.slice P rs.length C, .int .i64 now, .bool und, .string nm, .int .i64 ev, .bool beg, .bool who, .bool dne, .bool stp, .int .i64 hol] 84 (0, 0)), Rw 85 1 P rs.length C (fl rowL rs), RowsI 87 5 tkL rs])] := by have h := H8.absorbI [0, 1, 2] H16; exact h
      have hrlr11 := hrl r11 (List.mem_of_getElem? hr11)
      have hkl := (List.getElem?_eq_some_iff.1 hx12).1
      have hil := (List.getElem?_eq_some_iff.1 hr11).1
      refine b_ret rfl rfl ?_
      refine w_r7 ?_
      refine w_e ?_
      refine g_weak [(9, .int .i64 ((i9 : Int))), (10, .int .i64 ((k10 : Int)))] ⟨rfl, rfl, trivial⟩ ?_
      refine w_s ?_
      refine w_r5 ?_
      refine w_e ?_
      refine g_ret ?_
      refine fin_ret [.tmp 6, .tmp 7, .tmp 8] [.int .i64 ((i9 : Int)), .int .i64 ((k10 : Int)), .int .i64 0] rfl ⟨rfl, rfl, rfl, trivial⟩ ?_
      have htl : tellS now n = 0 := by unfold tellS; rw [if_neg (by omega)]
      exact .inr ⟨i9, k10, r11, x12, htl, hb3, hb4, hr11, hx12, hfx13, rfl, H16.takes [0, 1, 2, 3] (by decide)⟩
     ·
      exact (hpl hb4 hno14).elim
    ·
     refine g_cond_t rfl (neg_of hb4) ?_
     refine w_s ?_
     refine w_r3 ?_
     refine w_e ?_
     refine g_ret ?_
     refine g_then_ret ?_
     refine fin_ret [.tmp 6, .tmp 7, .tmp 8] [.int .i64 0, .int .i64 0, .int .i64 8] rfl ⟨rfl, rfl, rfl, trivial⟩ ?_
     exact .inl ⟨_, rfl, by decide, by unfold tellS; simp [hb1, hb2, hb3, hb4] <;> (try omega) <;> (try (split <;> (first | rfl | omega))), H0.takes [0, 1, 2, 3] (by decide)⟩
set_option maxRecDepth 20000 in
set_option maxHeartbeats 4000000 in
theorem next_R {g C : Nat} {P : Option Addr} {rs : List (Ro Tk)} {now ev hol : Int} {nm : ByteArray} {und beg who dne stp : Bool} (hrs : rs.length ≤ 20) (hrl : ∀ r ∈ rs, r.l.length ≤ 20) {n : Int} (h0 : 0 ≤ now)  (w : World) (HS : S w [Ob g (.cells #[.slice P rs.length C, .int .i64 now, .bool und, .string nm, .int .i64 ev, .bool beg, .bool who, .bool dne, .bool stp, .int .i64 hol] 84 (0, 0)), Rw 85 1 P rs.length C (fl rowL rs), RowsI 87 5 tkL rs]) : Calls Try.prog 48 #[.pointer (some ⟨g, 0, none⟩), .int .i64 n] w fun e w' => ∃ (P' : Option Addr) (C' : Nat) (rs' : List (Ro Tk)) (now' : Int) (und' : Bool) (nm' : ByteArray) (ev' : Int) (beg' who' dne' stp' : Bool) (hol' : Int), RPS rs' now' und' nm' ev' beg' who' dne' stp' hol' = nextA (RPS rs now und nm ev beg who dne stp hol) n ∧ e = .returned (.tuple #[.agg #[.int .i64 (nextV (RPS rs now und nm ev beg who dne stp hol) n).1, .int .i64 (nextV (RPS rs now und nm ev beg who dne stp hol) n).2.1, .int .i64 (nextV (RPS rs now und nm ev beg who dne stp hol) n).2.2.1, .int .i64 (nextV (RPS rs now und nm ev beg who dne stp hol) n).2.2.2], .int .i64 (nextE (RPS rs now und nm ev beg who dne stp hol) n)]) ∧ S w' ([Ob g (.cells #[.slice P' rs'.length C', .int .i64 (now'), .bool und', .string (nm'), .int .i64 (ev'), .bool beg', .bool who', .bool dne', .bool stp', .int .i64 (hol')] 84 (0, 0)), Rw 85 1 P' rs'.length C' (fl rowL rs'), RowsI 87 5 tkL rs'] ++ [Old w (fps [Ob g (.cells #[.slice P rs.length C, .int .i64 now, .bool und, .string nm, .int .i64 ev, .bool beg, .bool who, .bool dne, .bool stp, .int .i64 hol] 84 (0, 0)), Rw 85 1 P rs.length C (fl rowL rs), RowsI 87 5 tkL rs])]) := by
 have H0 := HS.beginI
 refine enter 65 Try.func48 rfl rfl rfl ?_
 refine g_weak [(0, .pointer (some ⟨g, 0, none⟩)), (1, .int .i64 n)] ⟨rfl, rfl, trivial⟩ ?_
 refine w_s ?_
 refine l_of (s_alloc H0 (wt0 rfl) rfl rfl rfl ze34 ?_)
 intro g1 wq2 H3
 refine w_a ?_
 refine w_e ?_
 refine g_seq ?_
 refine w_s ?_
 refine w_m ?_
 refine w_b (v := .bool false) (hb := (b_eqN (r := false) Try.underlying48 rfl)) ?_
 refine w_e ?_
 refine g_cond_f rfl rfl ?_
 refine g_skip ?_
 refine g_then ?_
 refine g_seq ?_
 refine w_s ?_
 refine w_r4 ?_
 refine w_1 H3 1 ?_
 refine w_b ?_
 refine w_m ?_
 by_cases hb4 : (n : Int) < now
 ·
  refine w_n (decide_eq_true hb4) ?_
  refine w_n (decide_eq_true hb4) ?_
  refine w_v (v := .bool true) (x_pick_t rfl rfl (decide_eq_true hb4) rfl) ?_
  refine w_e ?_
  refine g_weak [(0, .pointer (some ⟨g, 0, none⟩)), (1, .int .i64 n), (4, .pointer (some ⟨g1, 0, none⟩)), (20, .bool true)] ⟨rfl, rfl, rfl, rfl, trivial⟩ ?_
  refine g_cond_t rfl rfl ?_
  refine w_s ?_
  refine w_v (v := .agg #[.int .i64 0, .int .i64 0, .int .i64 0, .int .i64 0]) (x_build (vs := []) rfl rfl (cells := #[.int .i64 0, .int .i64 0, .int .i64 0, .int .i64 0]) (by kernel_rfl)) ?_
  refine l_of (w_st #[.int .i64 0, .int .i64 0, .int .i64 0, .int .i64 0] H3 0 ?_)
  intro wq5 H6
  refine w_a ?_
  refine w_e ?_
  refine g_ret ?_
  refine g_then_ret ?_
  refine fin_ret [.cell 4 34, .tmp 5] [.agg #[.int .i64 0, .int .i64 0, .int .i64 0, .int .i64 0], .int .i64 7] rfl ⟨⟨_, rfl, run_loadA (H6.ob (k := 0) rfl) Try.underlying34 rfl sz34 rfl rfl⟩, rfl, trivial⟩ ?_
  have hE : nextE (RPS rs now und nm ev beg who dne stp hol) n = 7 := by unfold nextE tellS; rw [if_pos (by rw [if_pos (by show n < now ∨ _; omega)]; decide)]
  exact ⟨P, C, rs, now, und, nm, ev, beg, who, dne, stp, hol, (by unfold nextA; rw [if_neg (by rw [hE]; decide)]), (by unfold nextV; rw [if_neg (by rw [hE]; decide), hE]; rfl), H6.takes [1, 2, 3, 4] (by decide)⟩
 ·
  refine w_g (decide_eq_false hb4) xm ?_
  refine w_g (decide_eq_false hb4) (x_bin rfl rfl rfl b_gtr) ?_
  refine w_v (v := .bool (decide ((1000000000 : Int) < n))) (x_pick_f rfl rfl (decide_eq_false hb4) rfl) ?_
  refine w_e ?_
  refine g_weak [(0, .pointer (some ⟨g, 0, none⟩)), (1, .int .i64 n), (4, .pointer (some ⟨g1, 0, none⟩)), (20, .bool (decide ((1000000000 : Int) < n)))] ⟨rfl, rfl, rfl, rfl, trivial⟩ ?_
  by_cases hb7 : (1000000000 : Int) < n
  ·
   refine g_cond_t rfl (decide_eq_true hb7) ?_
   refine w_s ?_
   refine w_v (v := .agg #[.int .i64 0, .int .i64 0, .int .i64 0, .int .i64 0]) (x_build (vs := []) rfl rfl (cells := #[.int .i64 0, .int .i64 0, .int .i64 0, .int .i64 0]) (by kernel_rfl)) ?_
   refine l_of (w_st #[.int .i64 0, .int .i64 0, .int .i64 0, .int .i64 0] H3 0 ?_)
   intro wq8 H9
   refine w_a ?_
   refine w_e ?_
   refine g_ret ?_
   refine g_then_ret ?_
   refine fin_ret [.cell 4 34, .tmp 5] [.agg #[.int .i64 0, .int .i64 0, .int .i64 0, .int .i64 0], .int .i64 7] rfl ⟨⟨_, rfl, run_loadA (H9.ob (k := 0) rfl) Try.underlying34 rfl sz34 rfl rfl⟩, rfl, trivial⟩ ?_
   have hE : nextE (RPS rs now und nm ev beg who dne stp hol) n = 7 := by unfold nextE tellS; rw [if_pos (by rw [if_pos (by show n < now ∨ _; omega)]; decide)]
   exact ⟨P, C, rs, now, und, nm, ev, beg, who, dne, stp, hol, (by unfold nextA; rw [if_neg (by rw [hE]; decide)]), (by unfold nextV; rw [if_neg (by rw [hE]; decide), hE]; rfl), H9.takes [1, 2, 3, 4] (by decide)⟩
  ·
   refine g_cond_f rfl (decide_eq_false hb7) ?_
   refine g_skip ?_
   refine g_then ?_
   refine g_seq ?_
   refine w_s ?_
   refine w_r3 ?_
   refine w_1 H3 1 ?_
   refine w_e ?_
   rcases Bool.eq_false_or_eq_true (und) with hb10 | hb10
   ·
    refine g_cond_t rfl hb10 ?_
    refine w_s ?_
    refine w_v (v := .agg #[.int .i64 0, .int .i64 0, .int .i64 0, .int .i64 0]) (x_build (vs := []) rfl rfl (cells := #[.int .i64 0, .int .i64 0, .int .i64 0, .int .i64 0]) (by kernel_rfl)) ?_
    refine l_of (w_st #[.int .i64 0, .int .i64 0, .int .i64 0, .int .i64 0] H3 0 ?_)
    intro wq11 H12
    refine w_a ?_
    refine w_e ?_
    refine g_ret ?_
    refine g_then_ret ?_
    refine fin_ret [.cell 4 34, .tmp 5] [.agg #[.int .i64 0, .int .i64 0, .int .i64 0, .int .i64 0], .int .i64 9] rfl ⟨⟨_, rfl, run_loadA (H12.ob (k := 0) rfl) Try.underlying34 rfl sz34 rfl rfl⟩, rfl, trivial⟩ ?_
    have hE : nextE (RPS rs now und nm ev beg who dne stp hol) n = 9 := by unfold nextE tellS; rw [show (RPS rs now und nm ev beg who dne stp hol).now = now from rfl, if_neg (by rw [if_neg (by omega)]; decide)]; rw [if_pos (by unfold RPS; rw [hb10]; rfl)]
    exact ⟨P, C, rs, now, und, nm, ev, beg, who, dne, stp, hol, (by unfold nextA; rw [if_neg (by rw [hE]; decide)]), (by unfold nextV; rw [if_neg (by rw [hE]; decide), hE]; rfl), H12.takes [1, 2, 3, 4] (by decide)⟩
   ·
    refine g_cond_f rfl hb10 ?_
    refine g_skip ?_
    refine g_then ?_
    refine w_s ?_
    refine w_r2 ?_
    refine l_of (s_call (wt0 rfl) (x_call' rfl rfl cl63) (next_r hrs hrl (by omega) _ (H3.takes [1, 2, 3] (by decide))) ?_)
    rintro ee21 wq19 hor22
    rcases hor22 with ⟨i13, k14, r15, x16, hr15, hx16, hfx17, rfl, H20⟩ | ⟨hno18, rfl, H20⟩
    ·
     replace H20 : S wq19 [Ob g (.cells #[.slice P rs.length C, .int .i64 now, .bool und, .string nm, .int .i64 ev, .bool beg, .bool who, .bool dne, .bool stp, .int .i64 hol] 84 (0, 0)), Rw 85 1 P rs.length C (fl rowL rs), RowsI 87 5 tkL rs, Ob g1 (.cells #[.int .i64 0, .int .i64 0, .int .i64 0, .int .i64 0] 34 (0, 0)), Old w (fps [Ob g (.cells #[.slice P rs.length C, .int .i64 now, .bool und, .string nm, .int .i64 ev, .bool beg, .bool who, .bool dne, .bool stp, .int .i64 hol] 84 (0, 0)), Rw 85 1 P rs.length C (fl rowL rs), RowsI 87 5 tkL rs])] := by have h := H3.absorbI [1, 2, 3] H20; exact h
     have hrlr15 := hrl r15 (List.mem_of_getElem? hr15)
     have hkl := (List.getElem?_eq_some_iff.1 hx16).1
     have hil := (List.getElem?_eq_some_iff.1 hr15).1
     refine b_ret rfl rfl ?_
     refine w_r3 ?_
     refine l_of (s_alloc H20 (wt0 rfl) rfl rfl rfl ze34 ?_)
     intro g23 wq24 H25
     refine l_of (w_st #[.int .i64 ((i13 : Int)), .int .i64 ((k14 : Int)), .int .i64 n, .int .i64 ((evS beg (dne && !who) stp))] H25 0 ?_)
     intro wq26 H27
     refine w_a ?_
     refine w_e ?_
     refine g_seq ?_
     refine w_s ?_
     refine w_m ?_
     refine w_v (v := .bool false) (x_not (b := true) rfl rfl) ?_
     refine w_e ?_
     refine g_weak [(0, .pointer (some ⟨g, 0, none⟩)), (1, .int .i64 n), (4, .pointer (some ⟨g1, 0, none⟩)), (6, .pointer (some ⟨g23, 0, none⟩)), (34, .bool false)] ⟨rfl, rfl, rfl, rfl, rfl, trivial⟩ ?_
     refine g_cond_f rfl rfl ?_
     refine g_skip ?_
     refine g_then ?_
     refine w_s ?_
     refine w_r4 ?_
     refine l_of (w_st #[.slice P rs.length C, .int .i64 n, .bool und, .string nm, .int .i64 ev, .bool beg, .bool who, .bool dne, .bool stp, .int .i64 hol] H27 1 ?_)
     intro wq28 H29
     refine w_e ?_
     refine g_seq ?_
     refine g_anyY [] (fun wx => S wx [Ob g23 (.cells #[.int .i64 ((i13 : Int)), .int .i64 ((k14 : Int)), .int .i64 n, .int .i64 ((evS beg (dne && !who) stp))] 34 (0, 0)), Ob g (.cells #[.slice P rs.length C, .int .i64 n, .bool und, .string nm, .int .i64 ev, .bool beg, .bool who, .bool dne, .bool stp, .int .i64 hol] 84 (0, 0)), Rw 85 1 P rs.length C (fl rowL rs), RowsI 87 5 tkL rs, Ob g1 (.cells #[.int .i64 0, .int .i64 0, .int .i64 0, .int .i64 0] 34 (0, 0)), Old w (fps [Ob g (.cells #[.slice P rs.length C, .int .i64 now, .bool und, .string nm, .int .i64 ev, .bool beg, .bool who, .bool dne, .bool stp, .int .i64 hol] 84 (0, 0)), Rw 85 1 P rs.length C (fl rowL rs), RowsI 87 5 tkL rs])]) (fun wx => S wx [Ob g23 (.cells #[.int .i64 ((i13 : Int)), .int .i64 ((k14 : Int)), .int .i64 n, .int .i64 ((evS beg (dne && !who) stp))] 34 (0, 0)), Rw 85 1 P rs.length C (fl rowL rs), RowsI 87 5 tkL rs, Ob g1 (.cells #[.int .i64 0, .int .i64 0, .int .i64 0, .int .i64 0] 34 (0, 0)), Old w (fps [Ob g (.cells #[.slice P rs.length C, .int .i64 now, .bool und, .string nm, .int .i64 ev, .bool beg, .bool who, .bool dne, .bool stp, .int .i64 hol] 84 (0, 0)), Rw 85 1 P rs.length C (fl rowL rs), RowsI 87 5 tkL rs])]) [20, 23, 26] (by kernel_rfl) H29 (fun wq30 H31 => ?_)
     refine w_y 0 rfl (wt0 rfl) rfl rfl rfl (by kernel_rfl) (fun _ => x_move rfl rfl) ?_
     refine w_y 1 rfl (wt0 rfl) rfl rfl rfl (by kernel_rfl) (fun _ => x_move rfl rfl) ?_
     refine w_y 2 rfl (wt0 rfl) rfl rfl rfl (by kernel_rfl) (fun _ => x_move rfl rfl) ?_
     refine w_y 3 rfl (wt0 rfl) rfl rfl rfl (by kernel_rfl) (fun _ => x_move rfl rfl) ?_
     refine w_y 4 rfl (wt0 rfl) rfl rfl rfl (by kernel_rfl) (fun _ => x_nilCheck rfl rfl) ?_
     refine w_y 5 rfl (wt0 rfl) rfl rfl rfl (by kernel_rfl) (fun _ => x_fieldAddr (off' := 0) rfl rfl fo84_0 rfl) ?_
     refine y_take (v := .slice P rs.length C) 6 rfl (wt0 rfl) rfl rfl rfl (by kernel_rfl) (by kernel_rfl) (by kernel_rfl) (by kernel_rfl) (by kernel_rfl) H31 (fun wx H => x_load1 H 1 rfl rfl Try.underlying82 rfl rfl rfl) ?_
     refine w_y 7 rfl (wt0 rfl) rfl rfl rfl (by kernel_rfl) (fun _ => x_fieldAddr (off' := 0) rfl rfl fo34_0 rfl) ?_
     refine y_take (v := .int .i64 ((i13 : Int))) 8 rfl (wt0 rfl) rfl rfl rfl (by kernel_rfl) (by kernel_rfl) (by kernel_rfl) (by kernel_rfl) (by kernel_rfl) H31 (fun wx H => x_load1 H 0 rfl rfl Try.underlying3 rfl rfl rfl) ?_
     refine w_y (v := .pointer ((P).map fun q => q.add (i13 * 1))) 9 rfl (wt0 rfl) rfl rfl rfl (by kernel_rfl) (fun _ => x_idxP i13 ((H31.rwReads (k := 2) rfl).some (by omega)) rfl rfl rfl Try.underlying82 sz85 (by omega)) ?_
     refine y_take (v := .slice r15.p r15.l.length r15.c) 10 rfl (wt0 rfl) rfl rfl rfl (by kernel_rfl) (by kernel_rfl) (by kernel_rfl) (by kernel_rfl) (by kernel_rfl) H31 (fun wx H => x_loadR1 i13 (H.rwReads (k := 2) rfl) (by omega) rfl rfl Try.underlying85 rfl (rowE.flAt1 hr15 rfl)) ?_
     refine w_y 11 rfl (wt0 rfl) rfl rfl rfl (by kernel_rfl) (fun _ => x_fieldAddr (off' := 1) rfl rfl fo34_1 rfl) ?_
     refine y_take (v := .int .i64 ((k14 : Int))) 12 rfl (wt0 rfl) rfl rfl rfl (by kernel_rfl) (by kernel_rfl) (by kernel_rfl) (by kernel_rfl) (by kernel_rfl) H31 (fun wx H => x_load1 H 0 rfl rfl Try.underlying3 rfl rfl rfl) ?_
     refine w_y (v := .pointer ((r15.p).map fun q => q.add (k14 * 5))) 13 rfl (wt0 rfl) rfl rfl rfl (by kernel_rfl) (fun _ => x_idxP k14 (((rows_in (H31.at (k := 3) rfl) (.inl (List.mem_of_getElem? hr15)))).some (by omega)) rfl rfl rfl Try.underlying85 sz87 (by omega)) ?_
     refine w_y (v := .pointer ((r15.p).map fun q => q.add (k14 * 5 + 0))) 14 rfl (wt0 rfl) rfl rfl rfl (by kernel_rfl) (fun _ => ex_cast (x_fieldAddrG (m := k14 * 5) (((rows_in (H31.at (k := 3) rfl) (.inl (List.mem_of_getElem? hr15)))).some (by omega)) rfl rfl fo87_0) rfl) ?_
     refine y_take (v := .string (x16.name)) 15 rfl (wt0 rfl) rfl rfl rfl (by kernel_rfl) (by kernel_rfl) (by kernel_rfl) (by kernel_rfl) (by kernel_rfl) H31 (fun wx H => x_loadF1 (i := 0) (j := k14) tkE ((rows_in (H.at (k := 3) rfl) (.inl (List.mem_of_getElem? hr15)))) hx16 rfl rfl Try.underlying9 rfl rfl) ?_
     refine w_y 16 rfl (wt0 rfl) rfl rfl rfl (by kernel_rfl) (fun _ => x_fieldAddr (off' := 3) rfl rfl fo34_3 rfl) ?_
     refine y_take0 (v := .int .i64 ((evS beg (dne && !who) stp))) 17 rfl (wt0 rfl) rfl rfl rfl (by kernel_rfl) (by kernel_rfl) (by kernel_rfl) (by kernel_rfl) (H31.mask [true, false, true, true, true, true]) (fun wx H => x_load1 H 0 rfl rfl Try.underlying3 rfl rfl rfl) ?_
     refine w_y 18 rfl (wt0 rfl) rfl rfl rfl (by kernel_rfl) (fun _ => x_nilCheck rfl rfl) ?_
     refine w_y 19 rfl (wt0 rfl) rfl rfl rfl (by kernel_rfl) (fun _ => x_fieldAddr (off' := 2) rfl rfl fo84_2 rfl) ?_
     refine y_one (i := 20) (by kernel_rfl) rfl ?_
     refine w_st #[.slice P rs.length C, .int .i64 n, .bool true, .string nm, .int .i64 ev, .bool beg, .bool who, .bool dne, .bool stp, .int .i64 hol] H31 1 ?_
     intro wq32 H33
     refine y_kt rfl (H33.mask [true, false, true, true, true, true]) ?_
     refine w_y 21 rfl (wt0 rfl) rfl rfl rfl (by kernel_rfl) (fun _ => x_nilCheck rfl rfl) ?_
     refine w_y 22 rfl (wt0 rfl) rfl rfl rfl (by kernel_rfl) (fun _ => x_fieldAddr (off' := 3) rfl rfl fo84_3 rfl) ?_
     refine y_one (i := 23) (by kernel_rfl) rfl ?_
     refine w_st #[.slice P rs.length C, .int .i64 n, .bool true, .string (x16.name), .int .i64 ev, .bool beg, .bool who, .bool dne, .bool stp, .int .i64 hol] H33 1 ?_
     intro wq34 H35
     refine y_kt rfl (H35.mask [true, false, true, true, true, true]) ?_
     refine w_y 24 rfl (wt0 rfl) rfl rfl rfl (by kernel_rfl) (fun _ => x_nilCheck rfl rfl) ?_
     refine w_y 25 rfl (wt0 rfl) rfl rfl rfl (by kernel_rfl) (fun _ => x_fieldAddr (off' := 4) rfl rfl fo84_4 rfl) ?_
     refine y_one (i := 26) (by kernel_rfl) rfl ?_
     refine w_st #[.slice P rs.length C, .int .i64 n, .bool true, .string (x16.name), .int .i64 ((evS beg (dne && !who) stp)), .bool beg, .bool who, .bool dne, .bool stp, .int .i64 hol] H35 1 ?_
     intro wq36 H37
     refine y_kt rfl (H37.mask [true, false, true, true, true, true]) ?_
     refine y_done (by kernel_rfl) ?_
     refine g_then ?_
     refine g_weak [(4, .pointer (some ⟨g1, 0, none⟩)), (6, .pointer (some ⟨g23, 0, none⟩))] ⟨rfl, rfl, trivial⟩ ?_
     refine w_s ?_
     refine w_v (v := .agg #[.int .i64 ((i13 : Int)), .int .i64 ((k14 : Int)), .int .i64 n, .int .i64 ((evS beg (dne && !who) stp))]) (x_loadA H37 0 rfl rfl Try.underlying34 rfl sz34 rfl rfl rfl) ?_
     refine l_of (w_st #[.int .i64 ((i13 : Int)), .int .i64 ((k14 : Int)), .int .i64 n, .int .i64 ((evS beg (dne && !who) stp))] H37 4 ?_)
     intro wq38 H39
     refine w_a ?_
     refine w_e ?_
     refine g_ret ?_
     refine fin_ret [.cell 4 34, .tmp 5] [.agg #[.int .i64 ((i13 : Int)), .int .i64 ((k14 : Int)), .int .i64 n, .int .i64 ((evS beg (dne && !who) stp))], .int .i64 0] rfl ⟨⟨_, rfl, run_loadA (H39.ob (k := 4) rfl) Try.underlying34 rfl sz34 rfl rfl⟩, rfl, trivial⟩ ?_
     have hE : nextE (RPS rs now und nm ev beg who dne stp hol) n = 0 := by unfold nextE tellS; rw [show (RPS rs now und nm ev beg who dne stp hol).now = now from rfl, if_neg (by rw [if_neg (by omega)]; decide), show (RPS rs now und nm ev beg who dne stp hol).cur = none from by unfold RPS; simp [hb4, hb7, hb10], if_neg (by decide), if_neg (by rw [hfx17]; exact (by simp))]
     exact ⟨P, C, rs, n, true, x16.name, (evS beg (dne && !who) stp), beg, who, dne, stp, hol, (by unfold nextA; rw [if_pos hE, hfx17]; unfold RPS PS.ev; simp), (by unfold nextV; rw [if_pos hE, hE, hfx17]; rfl), H39.takes [1, 2, 3, 5] (by decide)⟩
    ·
     replace H20 : S wq19 [Ob g (.cells #[.slice P rs.length C, .int .i64 now, .bool und, .string nm, .int .i64 ev, .bool beg, .bool who, .bool dne, .bool stp, .int .i64 hol] 84 (0, 0)), Rw 85 1 P rs.length C (fl rowL rs), RowsI 87 5 tkL rs, Ob g1 (.cells #[.int .i64 0, .int .i64 0, .int .i64 0, .int .i64 0] 34 (0, 0)), Old w (fps [Ob g (.cells #[.slice P rs.length C, .int .i64 now, .bool und, .string nm, .int .i64 ev, .bool beg, .bool who, .bool dne, .bool stp, .int .i64 hol] 84 (0, 0)), Rw 85 1 P rs.length C (fl rowL rs), RowsI 87 5 tkL rs])] := by have h := H3.absorbI [1, 2, 3] H20; exact h
     refine b_ret rfl rfl ?_
     refine w_r3 ?_
     refine l_of (s_alloc H20 (wt0 rfl) rfl rfl rfl ze34 ?_)
     intro g40 wq41 H42
     refine l_of (w_st #[.int .i64 0, .int .i64 0, .int .i64 0, .int .i64 0] H42 0 ?_)
     intro wq43 H44
     refine w_a ?_
     refine w_e ?_
     refine g_seq ?_
     refine w_s ?_
     refine w_m ?_
     refine w_v (v := .bool true) (x_not (b := false) rfl rfl) ?_
     refine w_e ?_
     refine g_weak [(0, .pointer (some ⟨g, 0, none⟩)), (1, .int .i64 n), (4, .pointer (some ⟨g1, 0, none⟩)), (6, .pointer (some ⟨g40, 0, none⟩)), (34, .bool true)] ⟨rfl, rfl, rfl, rfl, rfl, trivial⟩ ?_
     refine g_cond_t rfl rfl ?_
     refine w_s ?_
     refine w_v (v := .agg #[.int .i64 0, .int .i64 0, .int .i64 0, .int .i64 0]) (x_build (vs := []) rfl rfl (cells := #[.int .i64 0, .int .i64 0, .int .i64 0, .int .i64 0]) (by kernel_rfl)) ?_
     refine l_of (w_st #[.int .i64 0, .int .i64 0, .int .i64 0, .int .i64 0] H44 4 ?_)
     intro wq45 H46
     refine w_a ?_
     refine w_e ?_
     refine g_ret ?_
     refine g_then_ret ?_
     refine fin_ret [.cell 4 34, .tmp 5] [.agg #[.int .i64 0, .int .i64 0, .int .i64 0, .int .i64 0], .int .i64 8] rfl ⟨⟨_, rfl, run_loadA (H46.ob (k := 4) rfl) Try.underlying34 rfl sz34 rfl rfl⟩, rfl, trivial⟩ ?_
     have hE : nextE (RPS rs now und nm ev beg who dne stp hol) n = 8 := by unfold nextE tellS; rw [show (RPS rs now und nm ev beg who dne stp hol).now = now from rfl, if_neg (by rw [if_neg (by omega)]; decide)]; rw [if_neg (by unfold RPS; rw [hb10]; simp), if_pos hno18]
     exact ⟨P, C, rs, now, und, nm, ev, beg, who, dne, stp, hol, (by unfold nextA; rw [if_neg (by rw [hE]; decide)]), (by unfold nextV; rw [if_neg (by rw [hE]; decide), hE]; rfl), H46.takes [1, 2, 3, 5] (by decide)⟩
end Go.Proofs.Ytibdlnjnomikjaa
