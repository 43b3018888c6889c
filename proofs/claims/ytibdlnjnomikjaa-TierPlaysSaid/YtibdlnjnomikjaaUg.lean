import Derived.Test.YtibdlnjnomikjaaFk
import Derived.Test.YtibdlnjnomikjaaUf
set_option linter.unusedSimpArgs false
set_option linter.unusedVariables false
namespace Go.Proofs.Ytibdlnjnomikjaa
open Go.RowKit

theorem inf87 : infO Try.prog 87 = some (some (.agg #[.string (⟨#[]⟩), .int .i64 0, .int .i64 0, .bool false, .bool false]), 5, 40) := by kernel_rfl
theorem er_ne {l : List Tk} {z k : Nat} {y : Tk} (h : l[z]? = some y) (hk : ¬ z = k) : (l.take (z + 1)).eraseIdx k = (l.take z).eraseIdx k ++ [y] := by
  have hz := (List.getElem?_eq_some_iff.1 h).1
  rw [take_snoc h]
  rcases Nat.lt_or_gt_of_ne hk with h1 | h1
  · rw [List.eraseIdx_of_length_le (by simp; omega), List.eraseIdx_of_length_le (by simp; omega)]
  · rw [List.eraseIdx_append_of_lt_length (by simp; omega)]
theorem er_eq {l : List Tk} {z k : Nat} {y : Tk} (h : l[z]? = some y) (hk : z = k) : (l.take (z + 1)).eraseIdx k = (l.take z).eraseIdx k := by
  subst hk
  have hz := (List.getElem?_eq_some_iff.1 h).1
  have hl : (l.take z).length = z := by simp; omega
  rw [take_snoc h, List.eraseIdx_append_of_length_le (by omega), hl, Nat.sub_self, List.eraseIdx_of_length_le (l := l.take z) (by omega)]
  simp
theorem ansE_eq {A : PS} {n iv ek : Int} {b und : Bool} (hb : b = true ↔ (iv < 1 ∨ 100000000 < iv)) (h : ek = if tellS A.now n ≠ 0 then 7 else if b = true then 7 else if und = true then 0 else 8) (hc : A.cur = none ↔ ¬ und = true) : answerE A n iv = ek := by
  rw [h]; unfold answerE
  by_cases h1 : b = true
  · rw [if_pos (hb.1 h1), if_pos h1]; split <;> rfl
  · rw [if_neg (fun h2 => h1 (hb.2 h2)), if_neg h1]
    split
    · rfl
    · by_cases h3 : und = true
      · rw [if_pos h3, if_neg (fun h4 => hc.1 h4 h3)]
      · rw [if_neg h3, if_pos (hc.2 h3)]
theorem S.tkPut {w : World} {L : List Item} {rs : List (Ro Tk)} {i g C c : Nat} {P p : Option Addr} {r : Ro Tk} {l : List Tk} {a b c1 d e f x y z : Value} (hr : rs[i]? = some r)
    (h : S w (Rw 87 5 p l.length c (fl tkL l) :: RowsI 87 5 tkL rs :: Rw 85 1 P rs.length C (fl rowL (rs.set i ⟨p, c, l⟩)) :: Ob g (.cells #[.slice P rs.length C, a, b, c1, d, e, f, x, y, z] 84 (0, 0)) :: L)) :
    S w (Ob g (.cells #[.slice P (rs.set i ⟨p, c, l⟩).length C, a, b, c1, d, e, f, x, y, z] 84 (0, 0)) :: Rw 85 1 P (rs.set i ⟨p, c, l⟩).length C (fl rowL (rs.set i ⟨p, c, l⟩)) :: RowsI 87 5 tkL (rs.set i ⟨p, c, l⟩) :: L) := by
  have h1 := S.rowsOut (h.perm (.swap _ _ _)) hr
  have h2 := S.rowsIn (r := ⟨p, c, l⟩) (h1.tail.perm (.swap _ _ _)) (List.getElem?_eq_some_iff.1 hr).1
  rw [List.length_set]
  exact h2.perm (.trans (.trans (.cons _ (.swap _ _ _)) (.swap _ _ _)) (.cons _ (.swap _ _ _)))
set_option maxRecDepth 20000 in
set_option maxHeartbeats 4000000 in
theorem answer_R {g C : Nat} {P : Option Addr} {rs : List (Ro Tk)} {now ev hol : Int} {nm : ByteArray} {und beg who dne stp : Bool} (hrs : rs.length ≤ 20) (hrl : ∀ r ∈ rs, r.l.length ≤ 20) {n iv : Int} (h0 : 0 ≤ now) (hpl : und = true → (RPS rs now und nm ev beg who dne stp hol).place nm ≠ none) (hw3 : und = true → ev = 3 → (who || dne) = true)  (w : World) (HS : S w [Ob g (.cells #[.slice P rs.length C, .int .i64 now, .bool und, .string nm, .int .i64 ev, .bool beg, .bool who, .bool dne, .bool stp, .int .i64 hol] 84 (0, 0)), Rw 85 1 P rs.length C (fl rowL rs), RowsI 87 5 tkL rs]) : Calls Try.prog 40 #[.pointer (some ⟨g, 0, none⟩), .int .i64 n, .int .i64 iv] w fun e w' => ∃ (P' : Option Addr) (C' : Nat) (rs' : List (Ro Tk)) (now' : Int) (und' : Bool) (nm' : ByteArray) (ev' : Int) (beg' who' dne' stp' : Bool) (hol' : Int), RPS rs' now' und' nm' ev' beg' who' dne' stp' hol' = answerA (RPS rs now und nm ev beg who dne stp hol) n iv ∧ e = .returned (.int .i64 (answerE (RPS rs now und nm ev beg who dne stp hol) n iv)) ∧ S w' ([Ob g (.cells #[.slice P' rs'.length C', .int .i64 (now'), .bool und', .string (nm'), .int .i64 (ev'), .bool beg', .bool who', .bool dne', .bool stp', .int .i64 (hol')] 84 (0, 0)), Rw 85 1 P' rs'.length C' (fl rowL rs'), RowsI 87 5 tkL rs'] ++ [Old w (fps [Ob g (.cells #[.slice P rs.length C, .int .i64 now, .bool und, .string nm, .int .i64 ev, .bool beg, .bool who, .bool dne, .bool stp, .int .i64 hol] 84 (0, 0)), Rw 85 1 P rs.length C (fl rowL rs), RowsI 87 5 tkL rs])]) := by
 have H0 := HS.beginI
 refine enter 100 Try.func40 rfl rfl rfl ?_
 refine g_weak [(0, .pointer (some ⟨g, 0, none⟩)), (1, .int .i64 n), (2, .int .i64 iv)] ⟨rfl, rfl, rfl, trivial⟩ ?_
 refine w_s ?_
 refine w_a ?_
 refine w_e ?_
 refine w_s ?_
 refine w_r3 ?_
 refine w_b ?_
 refine w_m ?_
 by_cases hb1 : (iv : Int) < 1
 ·
  refine w_n (decide_eq_true hb1) ?_
  refine w_n (decide_eq_true hb1) ?_
  refine w_v (v := .bool true) (x_pick_t rfl rfl (decide_eq_true hb1) rfl) ?_
  refine l_of (s_call (wt0 rfl) (x_call' rfl rfl cl61) (ended_r hrs hrl (n := n) (bad := true) hpl _ (H0.takes [0, 1, 2] (by decide))) ?_)
  rintro ee15 wq13 hor16
  rcases hor16 with ⟨ek7, rfl, hnz9, hek8, H14⟩ | ⟨i2, k3, r4, x5, htl10, hbd11, hun12, hr4, hx5, hfx6, rfl, H14⟩
  ·
   replace H14 : S wq13 [Ob g (.cells #[.slice P rs.length C, .int .i64 now, .bool und, .string nm, .int .i64 ev, .bool beg, .bool who, .bool dne, .bool stp, .int .i64 hol] 84 (0, 0)), Rw 85 1 P rs.length C (fl rowL rs), RowsI 87 5 tkL rs, Old w (fps [Ob g (.cells #[.slice P rs.length C, .int .i64 now, .bool und, .string nm, .int .i64 ev, .bool beg, .bool who, .bool dne, .bool stp, .int .i64 hol] 84 (0, 0)), Rw 85 1 P rs.length C (fl rowL rs), RowsI 87 5 tkL rs])] := by have h := H0.absorbI [0, 1, 2] H14; exact h
   refine b_ret rfl rfl ?_
   refine w_r7 ?_
   refine w_e ?_
   refine g_weak [(0, .pointer (some ⟨g, 0, none⟩)), (1, .int .i64 n), (2, .int .i64 iv), (7, .int .i64 0), (8, .int .i64 0), (9, .int .i64 ek7)] ⟨rfl, rfl, rfl, rfl, rfl, rfl, trivial⟩ ?_
   refine g_seq ?_
   refine w_s ?_
   refine w_m ?_
   refine w_b (v := .bool (!decide ((ek7 : Int) = 0))) (hb := b_neq) ?_
   refine w_e ?_
   refine g_cond_t rfl (nt hnz9) ?_
   refine w_s ?_
   refine w_r2 ?_
   refine w_e ?_
   refine g_ret ?_
   refine g_then_ret ?_
   refine fin_ret [.tmp 6] [.int .i64 ek7] rfl ⟨rfl, trivial⟩ ?_
   have hE : answerE (RPS rs now und nm ev beg who dne stp hol) n iv = ek7 := ansE_eq (by simp [hb1]) hek8 (by unfold RPS; cases und <;> simp)
   exact ⟨P, C, rs, now, und, nm, ev, beg, who, dne, stp, hol, (by unfold answerA; rw [if_neg (by rw [hE]; exact hnz9)]), (by rw [hE]; rfl), H14.takes [0, 1, 2, 3] (by decide)⟩
  ·
   exact nomatch hbd11
 ·
  refine w_g (decide_eq_false hb1) xm ?_
  refine w_g (decide_eq_false hb1) (x_bin rfl rfl rfl b_gtr) ?_
  refine w_v (v := .bool (decide ((100000000 : Int) < iv))) (x_pick_f rfl rfl (decide_eq_false hb1) rfl) ?_
  refine l_of (s_call (wt0 rfl) (x_call' rfl rfl cl61) (ended_r hrs hrl (n := n) (bad := decide ((100000000 : Int) < iv)) hpl _ (H0.takes [0, 1, 2] (by decide))) ?_)
  rintro ee30 wq28 hor31
  rcases hor31 with ⟨ek22, rfl, hnz24, hek23, H29⟩ | ⟨i17, k18, r19, x20, htl25, hbd26, hun27, hr19, hx20, hfx21, rfl, H29⟩
  ·
   replace H29 : S wq28 [Ob g (.cells #[.slice P rs.length C, .int .i64 now, .bool und, .string nm, .int .i64 ev, .bool beg, .bool who, .bool dne, .bool stp, .int .i64 hol] 84 (0, 0)), Rw 85 1 P rs.length C (fl rowL rs), RowsI 87 5 tkL rs, Old w (fps [Ob g (.cells #[.slice P rs.length C, .int .i64 now, .bool und, .string nm, .int .i64 ev, .bool beg, .bool who, .bool dne, .bool stp, .int .i64 hol] 84 (0, 0)), Rw 85 1 P rs.length C (fl rowL rs), RowsI 87 5 tkL rs])] := by have h := H0.absorbI [0, 1, 2] H29; exact h
   refine b_ret rfl rfl ?_
   refine w_r7 ?_
   refine w_e ?_
   refine g_weak [(0, .pointer (some ⟨g, 0, none⟩)), (1, .int .i64 n), (2, .int .i64 iv), (7, .int .i64 0), (8, .int .i64 0), (9, .int .i64 ek22)] ⟨rfl, rfl, rfl, rfl, rfl, rfl, trivial⟩ ?_
   refine g_seq ?_
   refine w_s ?_
   refine w_m ?_
   refine w_b (v := .bool (!decide ((ek22 : Int) = 0))) (hb := b_neq) ?_
   refine w_e ?_
   refine g_cond_t rfl (nt hnz24) ?_
   refine w_s ?_
   refine w_r2 ?_
   refine w_e ?_
   refine g_ret ?_
   refine g_then_ret ?_
   refine fin_ret [.tmp 6] [.int .i64 ek22] rfl ⟨rfl, trivial⟩ ?_
   have hE : answerE (RPS rs now und nm ev beg who dne stp hol) n iv = ek22 := ansE_eq (by simp [hb1]) hek23 (by unfold RPS; cases und <;> simp)
   exact ⟨P, C, rs, now, und, nm, ev, beg, who, dne, stp, hol, (by unfold answerA; rw [if_neg (by rw [hE]; exact hnz24)]), (by rw [hE]; rfl), H29.takes [0, 1, 2, 3] (by decide)⟩
  ·
   replace H29 : S wq28 [Ob g (.cells #[.slice P rs.length C, .int .i64 n, .bool false, .string nm, .int .i64 ev, .bool beg, .bool who, .bool dne, .bool stp, .int .i64 hol] 84 (0, 0)), Rw 85 1 P rs.length C (fl rowL rs), RowsI 87 5 tkL rs, Old w (fps [Ob g (.cells #[.slice P rs.length C, .int .i64 now, .bool und, .string nm, .int .i64 ev, .bool beg, .bool who, .bool dne, .bool stp, .int .i64 hol] 84 (0, 0)), Rw 85 1 P rs.length C (fl rowL rs), RowsI 87 5 tkL rs])] := by have h := H0.absorbI [0, 1, 2] H29; exact h
   have hrlr19 := hrl r19 (List.mem_of_getElem? hr19)
   have hkl := (List.getElem?_eq_some_iff.1 hx20).1
   have hil := (List.getElem?_eq_some_iff.1 hr19).1
   have htl2 := tellS_0 htl25
   have hbd2 := of_decide_eq_false hbd26
   refine b_ret rfl rfl ?_
   refine w_r7 ?_
   refine w_e ?_
   refine g_weak [(0, .pointer (some ⟨g, 0, none⟩)), (1, .int .i64 n), (2, .int .i64 iv), (7, .int .i64 ((i17 : Int))), (8, .int .i64 ((k18 : Int))), (9, .int .i64 0)] ⟨rfl, rfl, rfl, rfl, rfl, rfl, trivial⟩ ?_
   refine g_seq ?_
   refine w_s ?_
   refine w_m ?_
   refine w_b (v := .bool (!decide ((0 : Int) = 0))) (hb := b_neq) ?_
   refine w_e ?_
   refine g_cond_f rfl (nf rfl) ?_
   refine g_skip ?_
   refine g_then ?_
   refine w_s ?_
   refine w_r3 ?_
   refine w_1 H29 0 ?_
   refine w_m ?_
   refine w_v (v := .pointer ((P).map fun q => q.add (i17 * 1))) (x_idxR i17 (H29.rwReads (k := 1) rfl) rfl rfl rfl Try.underlying82 sz85 (by omega)) ?_
   refine w_v (v := .slice r19.p r19.l.length r19.c) (x_loadR1 i17 (H29.rwReads (k := 1) rfl) (by omega) rfl rfl Try.underlying85 rfl (rowE.flAt1 hr19 rfl)) ?_
   refine w_m ?_
   refine w_v (v := .pointer ((r19.p).map fun q => q.add (k18 * 5))) (x_idxR k18 ((rows_in (H29.at (k := 2) rfl) (.inl (List.mem_of_getElem? hr19)))) rfl rfl rfl Try.underlying85 sz87 (by omega)) ?_
   refine w_v (v := .agg #[.string (x20.name), .int .i64 (x20.failed), .int .i64 (x20.after), .bool x20.ans, .bool x20.told]) (x_loadRA (vs := tkL x20) k18 ((rows_in (H29.at (k := 2) rfl) (.inl (List.mem_of_getElem? hr19)))) (by omega) rfl rfl Try.underlying87 rfl sz87 (by rfl) (tkE.flAt hx20)) ?_
   refine l_of (s_alloc H29 (wt0 rfl) rfl rfl rfl ze87 ?_)
   intro g32 wq33 H34
   refine l_of (w_st #[.string (x20.name), .int .i64 (x20.failed), .int .i64 (x20.after), .bool x20.ans, .bool x20.told] H34 0 ?_)
   intro wq35 H36
   refine w_e ?_
   refine g_weak [(0, .pointer (some ⟨g, 0, none⟩)), (1, .int .i64 n), (2, .int .i64 iv), (7, .int .i64 ((i17 : Int))), (8, .int .i64 ((k18 : Int))), (10, .pointer (some ⟨g32, 0, none⟩))] ⟨rfl, rfl, rfl, rfl, rfl, rfl, trivial⟩ ?_
   refine w_s ?_
   refine w_f 1 ?_
   refine l_of (w_st #[.string (x20.name), .int .i64 0, .int .i64 (x20.after), .bool x20.ans, .bool x20.told] H36 0 ?_)
   intro wq37 H38
   refine w_f 2 ?_
   refine l_of (w_st #[.string (x20.name), .int .i64 0, .int .i64 0, .bool x20.ans, .bool x20.told] H38 0 ?_)
   intro wq39 H40
   refine w_e ?_
   refine g_seq ?_
   refine w_s ?_
   refine w_r3 ?_
   refine w_1 H40 1 ?_
   refine w_b ?_
   refine w_e ?_
   by_cases hb41 : (ev : Int) = 2
   ·
    refine g_cond_t rfl (decide_eq_true hb41) ?_
    refine g_region ?_
    refine w_f 4 ?_
    refine l_of (w_st #[.string (x20.name), .int .i64 0, .int .i64 0, .bool x20.ans, .bool true] H40 0 ?_)
    intro wq42 H43
    refine w_e ?_
    refine g_seq ?_
    refine w_s ?_
    refine w_r3 ?_
    refine w_1 H43 1 ?_
    refine w_e ?_
    refine g_weak [(0, .pointer (some ⟨g, 0, none⟩)), (7, .int .i64 ((i17 : Int))), (8, .int .i64 ((k18 : Int))), (10, .pointer (some ⟨g32, 0, none⟩)), (59, .int .i64 ev)] ⟨rfl, rfl, rfl, rfl, rfl, trivial⟩ ?_
    refine g_block ?_
    refine w_s ?_
    refine w_b ?_
    refine w_a ?_
    refine w_e ?_
    refine g_cond_f rfl (decide_eq_false (by omega)) ?_
    refine w_s ?_
    refine w_b ?_
    refine w_a ?_
    refine w_e ?_
    refine g_cond_f rfl (decide_eq_false (by omega)) ?_
    refine g_skip ?_
    refine g_in ?_
    refine g_then ?_
    refine w_s ?_
    refine w_v (v := .agg #[.string (x20.name), .int .i64 0, .int .i64 0, .bool x20.ans, .bool true]) (x_loadA H43 0 rfl rfl Try.underlying87 rfl sz87 rfl rfl rfl) ?_
    refine l_of (s_buildSlice H43 (wt0 rfl) rfl rfl rfl (vs := [.agg #[.string (x20.name), .int .i64 0, .int .i64 0, .bool x20.ans, .bool true]]) rfl Try.underlying85 sz87 ze87 rfl rfl (cells := #[.string (x20.name), .int .i64 0, .int .i64 0, .bool x20.ans, .bool true]) (by kernel_rfl) ?_)
    intro g44 wq45 H46
    have H47 : S wq45 [Rw 87 5 (some ⟨g44, 0, none⟩) 1 1 (fl tkL ([(⟨x20.name, 0, 0, x20.ans, true⟩ : Tk)])), Ob g32 (.cells #[.string (x20.name), .int .i64 0, .int .i64 0, .bool x20.ans, .bool true] 87 (0, 0)), Ob g (.cells #[.slice P rs.length C, .int .i64 n, .bool false, .string nm, .int .i64 ev, .bool beg, .bool who, .bool dne, .bool stp, .int .i64 hol] 84 (0, 0)), Rw 85 1 P rs.length C (fl rowL rs), RowsI 87 5 tkL rs, Old w (fps [Ob g (.cells #[.slice P rs.length C, .int .i64 now, .bool und, .string nm, .int .i64 ev, .bool beg, .bool who, .bool dne, .bool stp, .int .i64 hol] 84 (0, 0)), Rw 85 1 P rs.length C (fl rowL rs), RowsI 87 5 tkL rs])] := S.obFl tkE H46 (k := 0) rfl rfl (by decide) rfl
    refine w_a ?_
    refine w_e ?_
    refine g_seq ?_
    refine w_s ?_
    refine w_r3 ?_
    refine w_1 H47 2 ?_
    refine w_m ?_
    refine w_v (v := .pointer ((P).map fun q => q.add (i17 * 1))) (x_idxR i17 (H47.rwReads (k := 3) rfl) rfl rfl rfl Try.underlying82 sz85 (by omega)) ?_
    refine w_v (v := .slice r19.p r19.l.length r19.c) (x_loadR1 i17 (H47.rwReads (k := 3) rfl) (by omega) rfl rfl Try.underlying85 rfl (rowE.flAt1 hr19 rfl)) ?_
    refine w_v (v := .int .i64 ((r19.l.length : Int))) (x_lenl rfl rfl Try.underlying85) ?_
    refine w_m ?_
    refine w_e ?_
    refine g_weak [(0, .pointer (some ⟨g, 0, none⟩)), (7, .int .i64 ((i17 : Int))), (8, .int .i64 ((k18 : Int))), (11, .slice (some ⟨g44, 0, none⟩) 1 1), (78, .slice r19.p r19.l.length r19.c), (79, .int .i64 ((r19.l.length : Int))), (80, .int .i64 0)] ⟨rfl, rfl, rfl, rfl, rfl, rfl, rfl, trivial⟩ ?_
    refine g_block ?_
    refine g_loop (ι := Nat × List Tk × Option Addr × Nat) (fun (z, ls, p2, c2) => [(0, .pointer (some ⟨g, 0, none⟩)), (7, .int .i64 ((i17 : Int))), (8, .int .i64 ((k18 : Int))), (11, .slice p2 ls.length c2), (78, .slice r19.p r19.l.length r19.c), (79, .int .i64 ((r19.l.length : Int))), (80, .int .i64 ((z : Int)))]) (fun (z, ls, p2, c2) wx => (z ≤ r19.l.length) ∧ (ls = (⟨x20.name, 0, 0, x20.ans, true⟩ : Tk) :: (r19.l.take z).eraseIdx k18) ∧ (ls.length ≤ z + 1) ∧ S wx [Rw 87 5 p2 ls.length c2 (fl tkL ls), Ob g (.cells #[.slice P rs.length C, .int .i64 n, .bool false, .string nm, .int .i64 ev, .bool beg, .bool who, .bool dne, .bool stp, .int .i64 hol] 84 (0, 0)), Rw 85 1 P rs.length C (fl rowL rs), RowsI 87 5 tkL rs, Old w (fps [Ob g (.cells #[.slice P rs.length C, .int .i64 now, .bool und, .string nm, .int .i64 ev, .bool beg, .bool who, .bool dne, .bool stp, .int .i64 hol] 84 (0, 0)), Rw 85 1 P rs.length C (fl rowL rs), RowsI 87 5 tkL rs])]) (fun (z, ls, p2, c2) => r19.l.length - z) (0, [(⟨x20.name, 0, 0, x20.ans, true⟩ : Tk)], (some ⟨g44, 0, none⟩), 1) ⟨rfl, rfl, rfl, rfl, rfl, rfl, rfl, trivial⟩ ⟨Nat.zero_le _, (by simp), (by simp), (H47.takes [0, 2, 3, 4, 5] (by decide))⟩ ?_
    rintro ⟨z, ls, p2, c2⟩ wq48 ⟨hz, hls, hlz, H49⟩
    refine g_weak [(0, .pointer (some ⟨g, 0, none⟩)), (7, .int .i64 ((i17 : Int))), (8, .int .i64 ((k18 : Int))), (11, .slice p2 ls.length c2), (78, .slice r19.p r19.l.length r19.c), (79, .int .i64 ((r19.l.length : Int))), (80, .int .i64 ((z : Int)))] ⟨rfl, rfl, rfl, rfl, rfl, rfl, rfl, trivial⟩ ?_
    refine w_s ?_
    refine w_b ?_
    refine w_e ?_
    refine g_seq ?_
    by_cases hb50 : ((z : Int) : Int) < (r19.l.length : Int)
    ·
     refine g_cond_t rfl (decide_eq_true hb50) ?_
     refine g_skip ?_
     refine g_then ?_
     refine g_seq ?_
     refine g_block ?_
     refine w_s ?_
     refine w_m ?_
     refine w_v (v := .pointer ((r19.p).map fun q => q.add (z * 5))) (x_idxR z ((rows_in (H49.at (k := 3) rfl) (.inl (List.mem_of_getElem? hr19)))) rfl rfl rfl Try.underlying85 sz87 (by omega)) ?_
     have hlq := ((rows_in (H49.at (k := 3) rfl) (.inl (List.mem_of_getElem? hr19)))).lenL tkE
     obtain ⟨x51, hx51⟩ := ex_at (l := r19.l) (j := z) (by omega)
     clear hlq
     refine w_v (v := .agg #[.string (x51.name), .int .i64 (x51.failed), .int .i64 (x51.after), .bool x51.ans, .bool x51.told]) (x_loadRA (vs := tkL x51) z ((rows_in (H49.at (k := 3) rfl) (.inl (List.mem_of_getElem? hr19)))) (by omega) rfl rfl Try.underlying87 rfl sz87 (by rfl) (tkE.flAt hx51)) ?_
     refine l_of (s_alloc H49 (wt0 rfl) rfl rfl rfl ze87 ?_)
     intro g52 wq53 H54
     refine w_a ?_
     refine l_of (w_st #[.string (x51.name), .int .i64 (x51.failed), .int .i64 (x51.after), .bool x51.ans, .bool x51.told] H54 0 ?_)
     intro wq55 H56
     refine w_e ?_
     refine w_s ?_
     refine w_r2 ?_
     refine w_b (v := .bool (!decide (((z : Int) : Int) = (k18 : Int)))) (hb := b_neq) ?_
     refine w_e ?_
     by_cases hb57 : ((z : Int) : Int) = (k18 : Int)
     ·
      refine g_cond_f rfl (nf hb57) ?_
      refine g_skip ?_
      refine g_in ?_
      refine g_then ?_
      refine g_region ?_
      refine w_b (v := .int .i64 (((z + 1 : Nat) : Int))) (hb := (b_add (by rw [w64 (by omega)]; omega))) ?_
      refine w_m ?_
      refine w_e ?_
      refine g_round (i := (z, ls, p2, c2)) ((z + 1), ls, p2, c2) ?_ ?_ ?_
      · exact ⟨rfl, rfl, rfl, rfl, rfl, rfl, rfl, trivial⟩
      · exact ⟨by omega, (by rw [er_eq hx51 (by omega)]; exact hls), (by omega), (H56.takes [1, 2, 3, 4, 5] (by decide))⟩
      · (try dsimp only); omega
     ·
      refine g_cond_t rfl (nt hb57) ?_
      refine g_region ?_
      refine w_m ?_
      refine w_v (v := .agg #[.string (x51.name), .int .i64 (x51.failed), .int .i64 (x51.after), .bool x51.ans, .bool x51.told]) (x_loadA H56 0 rfl rfl Try.underlying87 rfl sz87 rfl rfl rfl) ?_
      refine l_of (s_buildSlice H56 (wt0 rfl) rfl rfl rfl (vs := [.agg #[.string (x51.name), .int .i64 (x51.failed), .int .i64 (x51.after), .bool x51.ans, .bool x51.told]]) rfl Try.underlying85 sz87 ze87 rfl rfl (cells := #[.string (x51.name), .int .i64 (x51.failed), .int .i64 (x51.after), .bool x51.ans, .bool x51.told]) (by kernel_rfl) ?_)
      intro g58 wq59 H60
      have hln65a := (H60.rwReads (k := 2) rfl).lenL tkE
      have hln65 : (ls ++ [x51]).length = ls.length + 1 := by simp only [List.length_append, List.length_cons, List.length_nil] <;> omega
      refine l_of (s_appBn (m := 1) (l := ls) (l2 := [x51]) tkE H60 2 (j0 := 0) rfl rfl ⟨rfl, Nat.le_refl _⟩ (wt0 rfl) rfl rfl rfl rfl rfl rfl Try.underlying85 inf87 rfl (by decide) (by omega) ?_)
      intro p61 c62 wq63 H64
      refine w_a ?_
      refine g_nil ?_
      refine g_in ?_
      refine g_then ?_
      refine g_weak [(0, .pointer (some ⟨g, 0, none⟩)), (7, .int .i64 ((i17 : Int))), (8, .int .i64 ((k18 : Int))), (11, .slice p61 ((ls ++ [x51]).length) c62), (78, .slice r19.p r19.l.length r19.c), (79, .int .i64 ((r19.l.length : Int))), (80, .int .i64 ((z : Int)))] ⟨rfl, rfl, rfl, rfl, rfl, rfl, rfl, trivial⟩ ?_
      refine g_region ?_
      refine w_b (v := .int .i64 (((z + 1 : Nat) : Int))) (hb := (b_add (by rw [w64 (by omega)]; omega))) ?_
      refine w_m ?_
      refine w_e ?_
      refine g_round (i := (z, ls, p2, c2)) ((z + 1), (ls ++ [x51]), p61, c62) ?_ ?_ ?_
      · exact ⟨rfl, rfl, rfl, rfl, rfl, rfl, rfl, trivial⟩
      · exact ⟨by omega, (by rw [er_ne hx51 (by omega), hls]; rfl), (by simp; omega), (H64.takes [2, 3, 4, 5, 6] (by decide))⟩
      · (try dsimp only); omega
    ·
     refine g_cond_f rfl (decide_eq_false hb50) ?_
     refine g_exit ?_
     refine g_then_exit ?_
     refine g_then_exit ?_
     refine g_in_hit ?_
     refine g_then ?_
     refine w_s ?_
     refine w_r3 ?_
     refine w_1 H49 1 ?_
     refine w_r2 ?_
     refine w_v (v := .pointer ((P).map fun q => q.add (i17 * 1))) (x_idxR i17 (H49.rwReads (k := 2) rfl) rfl rfl rfl Try.underlying82 sz85 (by omega)) ?_
     refine l_of (s_stoL (j := i17) rowE (⟨p2, c2, ls⟩ : Ro Tk) H49 2 (wt0 rfl) rfl rfl rfl rfl rfl rfl sz85 (by omega) ?_)
     intro wq66 H67
     refine w_e ?_
     refine g_weak [] trivial ?_
     refine w_s ?_
     refine w_a ?_
     refine w_e ?_
     refine g_ret ?_
     refine fin_ret [.tmp 6] [.int .i64 0] rfl ⟨rfl, trivial⟩ ?_
     have H68 := S.tkPut (l := ls) hr19 (H67.takes [0, 3, 2, 1, 4] (by decide))
     rw [List.take_of_length_le (by omega)] at hls
     have hE : answerE (RPS rs now und nm ev beg who dne stp hol) n iv = 0 := by unfold answerE; rw [if_neg (by omega), if_neg (by show ¬ tellS now n ≠ 0; rw [htl25]; decide), if_neg (by unfold RPS; rw [hun27]; simp)]
     have hc : (RPS rs now und nm ev beg who dne stp hol).cur = some (nm, ev) := by unfold RPS; rw [hun27]; rfl
     exact ⟨P, C, (rs.set i17 (⟨p2, c2, ls⟩ : Ro Tk)), n, false, nm, ev, beg, who, dne, stp, hol, (by unfold answerA; rw [if_pos hE, hc]; show _ = (match (RPS rs now und nm ev beg who dne stp hol).place nm with | some p => _ | none => _); rw [hfx21, hls]; unfold RPS frontP ansT; simp only [set_T, getD_T hr19]; simp [hb1, hb41, hb50]), (by rw [hE]; rfl), H68.takes [0, 1, 2, 3] (by decide)⟩
   ·
    refine g_cond_f rfl (decide_eq_false hb41) ?_
    refine w_s ?_
    refine w_f 3 ?_
    refine l_of (w_st #[.string (x20.name), .int .i64 0, .int .i64 0, .bool true, .bool x20.told] H40 0 ?_)
    intro wq69 H70
    refine w_f 4 ?_
    refine l_of (w_st #[.string (x20.name), .int .i64 0, .int .i64 0, .bool true, .bool false] H70 0 ?_)
    intro wq71 H72
    refine w_e ?_
    refine g_region ?_
    refine w_r3 ?_
    refine w_b (v := .int .i64 ((n + iv))) (hb := (b_add (by rw [w64 (by omega)]))) ?_
    refine w_r2 ?_
    refine l_of (w_st #[.slice P rs.length C, .int .i64 n, .bool false, .string nm, .int .i64 ev, .bool beg, .bool who, .bool dne, .bool stp, .int .i64 ((n + iv))] H72 1 ?_)
    intro wq73 H74
    refine w_e ?_
    refine g_weak [(0, .pointer (some ⟨g, 0, none⟩)), (7, .int .i64 ((i17 : Int))), (8, .int .i64 ((k18 : Int))), (10, .pointer (some ⟨g32, 0, none⟩))] ⟨rfl, rfl, rfl, rfl, trivial⟩ ?_
    refine g_seq ?_
    refine w_s ?_
    refine w_r3 ?_
    refine w_1 H74 1 ?_
    refine w_e ?_
    refine g_block ?_
    refine w_s ?_
    refine w_b ?_
    refine w_a ?_
    refine w_e ?_
    by_cases hb75 : (ev : Int) = 1
    ·
     refine g_cond_t rfl (decide_eq_true hb75) ?_
     refine g_region ?_
     refine w_r3 ?_
     refine l_of (w_st #[.slice P rs.length C, .int .i64 n, .bool false, .string nm, .int .i64 ev, .bool true, .bool who, .bool dne, .bool stp, .int .i64 ((n + iv))] H74 1 ?_)
     intro wq76 H77
     refine g_nil ?_
     refine g_in ?_
     refine g_then ?_
     refine w_s ?_
     refine w_v (v := .agg #[.string (x20.name), .int .i64 0, .int .i64 0, .bool true, .bool false]) (x_loadA H77 0 rfl rfl Try.underlying87 rfl sz87 rfl rfl rfl) ?_
     refine l_of (s_buildSlice H77 (wt0 rfl) rfl rfl rfl (vs := [.agg #[.string (x20.name), .int .i64 0, .int .i64 0, .bool true, .bool false]]) rfl Try.underlying85 sz87 ze87 rfl rfl (cells := #[.string (x20.name), .int .i64 0, .int .i64 0, .bool true, .bool false]) (by kernel_rfl) ?_)
     intro g78 wq79 H80
     have H81 : S wq79 [Rw 87 5 (some ⟨g78, 0, none⟩) 1 1 (fl tkL ([(⟨x20.name, 0, 0, true, false⟩ : Tk)])), Ob g32 (.cells #[.string (x20.name), .int .i64 0, .int .i64 0, .bool true, .bool false] 87 (0, 0)), Ob g (.cells #[.slice P rs.length C, .int .i64 n, .bool false, .string nm, .int .i64 ev, .bool true, .bool who, .bool dne, .bool stp, .int .i64 ((n + iv))] 84 (0, 0)), Rw 85 1 P rs.length C (fl rowL rs), RowsI 87 5 tkL rs, Old w (fps [Ob g (.cells #[.slice P rs.length C, .int .i64 now, .bool und, .string nm, .int .i64 ev, .bool beg, .bool who, .bool dne, .bool stp, .int .i64 hol] 84 (0, 0)), Rw 85 1 P rs.length C (fl rowL rs), RowsI 87 5 tkL rs])] := S.obFl tkE H80 (k := 0) rfl rfl (by decide) rfl
     refine w_a ?_
     refine w_e ?_
     refine g_weak [(0, .pointer (some ⟨g, 0, none⟩)), (7, .int .i64 ((i17 : Int))), (8, .int .i64 ((k18 : Int))), (11, .slice (some ⟨g78, 0, none⟩) 1 1)] ⟨rfl, rfl, rfl, rfl, trivial⟩ ?_
     refine g_seq ?_
     refine w_s ?_
     refine w_r3 ?_
     refine w_1 H81 2 ?_
     refine w_m ?_
     refine w_v (v := .pointer ((P).map fun q => q.add (i17 * 1))) (x_idxR i17 (H81.rwReads (k := 3) rfl) rfl rfl rfl Try.underlying82 sz85 (by omega)) ?_
     refine w_v (v := .slice r19.p r19.l.length r19.c) (x_loadR1 i17 (H81.rwReads (k := 3) rfl) (by omega) rfl rfl Try.underlying85 rfl (rowE.flAt1 hr19 rfl)) ?_
     refine w_v (v := .int .i64 ((r19.l.length : Int))) (x_lenl rfl rfl Try.underlying85) ?_
     refine w_m ?_
     refine w_e ?_
     refine g_block ?_
     refine g_loop (ι := Nat × List Tk × Option Addr × Nat) (fun (z, ls, p2, c2) => [(0, .pointer (some ⟨g, 0, none⟩)), (7, .int .i64 ((i17 : Int))), (8, .int .i64 ((k18 : Int))), (11, .slice p2 ls.length c2), (78, .slice r19.p r19.l.length r19.c), (79, .int .i64 ((r19.l.length : Int))), (80, .int .i64 ((z : Int)))]) (fun (z, ls, p2, c2) wx => (z ≤ r19.l.length) ∧ (ls = (⟨x20.name, 0, 0, true, false⟩ : Tk) :: (r19.l.take z).eraseIdx k18) ∧ (ls.length ≤ z + 1) ∧ S wx [Rw 87 5 p2 ls.length c2 (fl tkL ls), Ob g (.cells #[.slice P rs.length C, .int .i64 n, .bool false, .string nm, .int .i64 ev, .bool true, .bool who, .bool dne, .bool stp, .int .i64 ((n + iv))] 84 (0, 0)), Rw 85 1 P rs.length C (fl rowL rs), RowsI 87 5 tkL rs, Old w (fps [Ob g (.cells #[.slice P rs.length C, .int .i64 now, .bool und, .string nm, .int .i64 ev, .bool beg, .bool who, .bool dne, .bool stp, .int .i64 hol] 84 (0, 0)), Rw 85 1 P rs.length C (fl rowL rs), RowsI 87 5 tkL rs])]) (fun (z, ls, p2, c2) => r19.l.length - z) (0, [(⟨x20.name, 0, 0, true, false⟩ : Tk)], (some ⟨g78, 0, none⟩), 1) ⟨rfl, rfl, rfl, rfl, rfl, rfl, rfl, trivial⟩ ⟨Nat.zero_le _, (by simp), (by simp), (H81.takes [0, 2, 3, 4, 5] (by decide))⟩ ?_
     rintro ⟨z, ls, p2, c2⟩ wq82 ⟨hz, hls, hlz, H83⟩
     refine g_weak [(0, .pointer (some ⟨g, 0, none⟩)), (7, .int .i64 ((i17 : Int))), (8, .int .i64 ((k18 : Int))), (11, .slice p2 ls.length c2), (78, .slice r19.p r19.l.length r19.c), (79, .int .i64 ((r19.l.length : Int))), (80, .int .i64 ((z : Int)))] ⟨rfl, rfl, rfl, rfl, rfl, rfl, rfl, trivial⟩ ?_
     refine w_s ?_
     refine w_b ?_
     refine w_e ?_
     refine g_seq ?_
     by_cases hb84 : ((z : Int) : Int) < (r19.l.length : Int)
     ·
      refine g_cond_t rfl (decide_eq_true hb84) ?_
      refine g_skip ?_
      refine g_then ?_
      refine g_seq ?_
      refine g_block ?_
      refine w_s ?_
      refine w_m ?_
      refine w_v (v := .pointer ((r19.p).map fun q => q.add (z * 5))) (x_idxR z ((rows_in (H83.at (k := 3) rfl) (.inl (List.mem_of_getElem? hr19)))) rfl rfl rfl Try.underlying85 sz87 (by omega)) ?_
      have hlq := ((rows_in (H83.at (k := 3) rfl) (.inl (List.mem_of_getElem? hr19)))).lenL tkE
      obtain ⟨x85, hx85⟩ := ex_at (l := r19.l) (j := z) (by omega)
      clear hlq
      refine w_v (v := .agg #[.string (x85.name), .int .i64 (x85.failed), .int .i64 (x85.after), .bool x85.ans, .bool x85.told]) (x_loadRA (vs := tkL x85) z ((rows_in (H83.at (k := 3) rfl) (.inl (List.mem_of_getElem? hr19)))) (by omega) rfl rfl Try.underlying87 rfl sz87 (by rfl) (tkE.flAt hx85)) ?_
      refine l_of (s_alloc H83 (wt0 rfl) rfl rfl rfl ze87 ?_)
      intro g86 wq87 H88
      refine w_a ?_
      refine l_of (w_st #[.string (x85.name), .int .i64 (x85.failed), .int .i64 (x85.after), .bool x85.ans, .bool x85.told] H88 0 ?_)
      intro wq89 H90
      refine w_e ?_
      refine w_s ?_
      refine w_r2 ?_
      refine w_b (v := .bool (!decide (((z : Int) : Int) = (k18 : Int)))) (hb := b_neq) ?_
      refine w_e ?_
      by_cases hb91 : ((z : Int) : Int) = (k18 : Int)
      ·
       refine g_cond_f rfl (nf hb91) ?_
       refine g_skip ?_
       refine g_in ?_
       refine g_then ?_
       refine g_region ?_
       refine w_b (v := .int .i64 (((z + 1 : Nat) : Int))) (hb := (b_add (by rw [w64 (by omega)]; omega))) ?_
       refine w_m ?_
       refine w_e ?_
       refine g_round (i := (z, ls, p2, c2)) ((z + 1), ls, p2, c2) ?_ ?_ ?_
       · exact ⟨rfl, rfl, rfl, rfl, rfl, rfl, rfl, trivial⟩
       · exact ⟨by omega, (by rw [er_eq hx85 (by omega)]; exact hls), (by omega), (H90.takes [1, 2, 3, 4, 5] (by decide))⟩
       · (try dsimp only); omega
      ·
       refine g_cond_t rfl (nt hb91) ?_
       refine g_region ?_
       refine w_m ?_
       refine w_v (v := .agg #[.string (x85.name), .int .i64 (x85.failed), .int .i64 (x85.after), .bool x85.ans, .bool x85.told]) (x_loadA H90 0 rfl rfl Try.underlying87 rfl sz87 rfl rfl rfl) ?_
       refine l_of (s_buildSlice H90 (wt0 rfl) rfl rfl rfl (vs := [.agg #[.string (x85.name), .int .i64 (x85.failed), .int .i64 (x85.after), .bool x85.ans, .bool x85.told]]) rfl Try.underlying85 sz87 ze87 rfl rfl (cells := #[.string (x85.name), .int .i64 (x85.failed), .int .i64 (x85.after), .bool x85.ans, .bool x85.told]) (by kernel_rfl) ?_)
       intro g92 wq93 H94
       have hln99a := (H94.rwReads (k := 2) rfl).lenL tkE
       have hln99 : (ls ++ [x85]).length = ls.length + 1 := by simp only [List.length_append, List.length_cons, List.length_nil] <;> omega
       refine l_of (s_appBn (m := 1) (l := ls) (l2 := [x85]) tkE H94 2 (j0 := 0) rfl rfl ⟨rfl, Nat.le_refl _⟩ (wt0 rfl) rfl rfl rfl rfl rfl rfl Try.underlying85 inf87 rfl (by decide) (by omega) ?_)
       intro p95 c96 wq97 H98
       refine w_a ?_
       refine g_nil ?_
       refine g_in ?_
       refine g_then ?_
       refine g_weak [(0, .pointer (some ⟨g, 0, none⟩)), (7, .int .i64 ((i17 : Int))), (8, .int .i64 ((k18 : Int))), (11, .slice p95 ((ls ++ [x85]).length) c96), (78, .slice r19.p r19.l.length r19.c), (79, .int .i64 ((r19.l.length : Int))), (80, .int .i64 ((z : Int)))] ⟨rfl, rfl, rfl, rfl, rfl, rfl, rfl, trivial⟩ ?_
       refine g_region ?_
       refine w_b (v := .int .i64 (((z + 1 : Nat) : Int))) (hb := (b_add (by rw [w64 (by omega)]; omega))) ?_
       refine w_m ?_
       refine w_e ?_
       refine g_round (i := (z, ls, p2, c2)) ((z + 1), (ls ++ [x85]), p95, c96) ?_ ?_ ?_
       · exact ⟨rfl, rfl, rfl, rfl, rfl, rfl, rfl, trivial⟩
       · exact ⟨by omega, (by rw [er_ne hx85 (by omega), hls]; rfl), (by simp; omega), (H98.takes [2, 3, 4, 5, 6] (by decide))⟩
       · (try dsimp only); omega
     ·
      refine g_cond_f rfl (decide_eq_false hb84) ?_
      refine g_exit ?_
      refine g_then_exit ?_
      refine g_then_exit ?_
      refine g_in_hit ?_
      refine g_then ?_
      refine w_s ?_
      refine w_r3 ?_
      refine w_1 H83 1 ?_
      refine w_r2 ?_
      refine w_v (v := .pointer ((P).map fun q => q.add (i17 * 1))) (x_idxR i17 (H83.rwReads (k := 2) rfl) rfl rfl rfl Try.underlying82 sz85 (by omega)) ?_
      refine l_of (s_stoL (j := i17) rowE (⟨p2, c2, ls⟩ : Ro Tk) H83 2 (wt0 rfl) rfl rfl rfl rfl rfl rfl sz85 (by omega) ?_)
      intro wq100 H101
      refine w_e ?_
      refine g_weak [] trivial ?_
      refine w_s ?_
      refine w_a ?_
      refine w_e ?_
      refine g_ret ?_
      refine fin_ret [.tmp 6] [.int .i64 0] rfl ⟨rfl, trivial⟩ ?_
      have H102 := S.tkPut (l := ls) hr19 (H101.takes [0, 3, 2, 1, 4] (by decide))
      rw [List.take_of_length_le (by omega)] at hls
      have hE : answerE (RPS rs now und nm ev beg who dne stp hol) n iv = 0 := by unfold answerE; rw [if_neg (by omega), if_neg (by show ¬ tellS now n ≠ 0; rw [htl25]; decide), if_neg (by unfold RPS; rw [hun27]; simp)]
      have hc : (RPS rs now und nm ev beg who dne stp hol).cur = some (nm, ev) := by unfold RPS; rw [hun27]; rfl
      exact ⟨P, C, (rs.set i17 (⟨p2, c2, ls⟩ : Ro Tk)), n, false, nm, ev, true, who, dne, stp, (n + iv), (by unfold answerA; rw [if_pos hE, hc]; show _ = (match (RPS rs now und nm ev beg who dne stp hol).place nm with | some p => _ | none => _); rw [hfx21, hls]; unfold RPS frontP ansT; simp only [set_T, getD_T hr19]; simp [hb1, hb41, hb75, hb84]), (by rw [hE]; rfl), H102.takes [0, 1, 2, 3] (by decide)⟩
    ·
     refine g_cond_f rfl (decide_eq_false hb75) ?_
     refine w_s ?_
     refine w_b ?_
     refine w_a ?_
     refine w_e ?_
     by_cases hb103 : (ev : Int) = 3
     ·
      refine g_cond_t rfl (decide_eq_true hb103) ?_
      refine g_region ?_
      refine w_r3 ?_
      refine l_of (w_st #[.slice P rs.length C, .int .i64 n, .bool false, .string nm, .int .i64 ev, .bool beg, .bool true, .bool dne, .bool stp, .int .i64 ((n + iv))] H74 1 ?_)
      intro wq104 H105
      refine g_nil ?_
      refine g_in ?_
      refine g_then ?_
      refine w_s ?_
      refine w_v (v := .agg #[.string (x20.name), .int .i64 0, .int .i64 0, .bool true, .bool false]) (x_loadA H105 0 rfl rfl Try.underlying87 rfl sz87 rfl rfl rfl) ?_
      refine l_of (s_buildSlice H105 (wt0 rfl) rfl rfl rfl (vs := [.agg #[.string (x20.name), .int .i64 0, .int .i64 0, .bool true, .bool false]]) rfl Try.underlying85 sz87 ze87 rfl rfl (cells := #[.string (x20.name), .int .i64 0, .int .i64 0, .bool true, .bool false]) (by kernel_rfl) ?_)
      intro g106 wq107 H108
      have H109 : S wq107 [Rw 87 5 (some ⟨g106, 0, none⟩) 1 1 (fl tkL ([(⟨x20.name, 0, 0, true, false⟩ : Tk)])), Ob g32 (.cells #[.string (x20.name), .int .i64 0, .int .i64 0, .bool true, .bool false] 87 (0, 0)), Ob g (.cells #[.slice P rs.length C, .int .i64 n, .bool false, .string nm, .int .i64 ev, .bool beg, .bool true, .bool dne, .bool stp, .int .i64 ((n + iv))] 84 (0, 0)), Rw 85 1 P rs.length C (fl rowL rs), RowsI 87 5 tkL rs, Old w (fps [Ob g (.cells #[.slice P rs.length C, .int .i64 now, .bool und, .string nm, .int .i64 ev, .bool beg, .bool who, .bool dne, .bool stp, .int .i64 hol] 84 (0, 0)), Rw 85 1 P rs.length C (fl rowL rs), RowsI 87 5 tkL rs])] := S.obFl tkE H108 (k := 0) rfl rfl (by decide) rfl
      refine w_a ?_
      refine w_e ?_
      refine g_weak [(0, .pointer (some ⟨g, 0, none⟩)), (7, .int .i64 ((i17 : Int))), (8, .int .i64 ((k18 : Int))), (11, .slice (some ⟨g106, 0, none⟩) 1 1)] ⟨rfl, rfl, rfl, rfl, trivial⟩ ?_
      refine g_seq ?_
      refine w_s ?_
      refine w_r3 ?_
      refine w_1 H109 2 ?_
      refine w_m ?_
      refine w_v (v := .pointer ((P).map fun q => q.add (i17 * 1))) (x_idxR i17 (H109.rwReads (k := 3) rfl) rfl rfl rfl Try.underlying82 sz85 (by omega)) ?_
      refine w_v (v := .slice r19.p r19.l.length r19.c) (x_loadR1 i17 (H109.rwReads (k := 3) rfl) (by omega) rfl rfl Try.underlying85 rfl (rowE.flAt1 hr19 rfl)) ?_
      refine w_v (v := .int .i64 ((r19.l.length : Int))) (x_lenl rfl rfl Try.underlying85) ?_
      refine w_m ?_
      refine w_e ?_
      refine g_block ?_
      refine g_loop (ι := Nat × List Tk × Option Addr × Nat) (fun (z, ls, p2, c2) => [(0, .pointer (some ⟨g, 0, none⟩)), (7, .int .i64 ((i17 : Int))), (8, .int .i64 ((k18 : Int))), (11, .slice p2 ls.length c2), (78, .slice r19.p r19.l.length r19.c), (79, .int .i64 ((r19.l.length : Int))), (80, .int .i64 ((z : Int)))]) (fun (z, ls, p2, c2) wx => (z ≤ r19.l.length) ∧ (ls = (⟨x20.name, 0, 0, true, false⟩ : Tk) :: (r19.l.take z).eraseIdx k18) ∧ (ls.length ≤ z + 1) ∧ S wx [Rw 87 5 p2 ls.length c2 (fl tkL ls), Ob g (.cells #[.slice P rs.length C, .int .i64 n, .bool false, .string nm, .int .i64 ev, .bool beg, .bool true, .bool dne, .bool stp, .int .i64 ((n + iv))] 84 (0, 0)), Rw 85 1 P rs.length C (fl rowL rs), RowsI 87 5 tkL rs, Old w (fps [Ob g (.cells #[.slice P rs.length C, .int .i64 now, .bool und, .string nm, .int .i64 ev, .bool beg, .bool who, .bool dne, .bool stp, .int .i64 hol] 84 (0, 0)), Rw 85 1 P rs.length C (fl rowL rs), RowsI 87 5 tkL rs])]) (fun (z, ls, p2, c2) => r19.l.length - z) (0, [(⟨x20.name, 0, 0, true, false⟩ : Tk)], (some ⟨g106, 0, none⟩), 1) ⟨rfl, rfl, rfl, rfl, rfl, rfl, rfl, trivial⟩ ⟨Nat.zero_le _, (by simp), (by simp), (H109.takes [0, 2, 3, 4, 5] (by decide))⟩ ?_
      rintro ⟨z, ls, p2, c2⟩ wq110 ⟨hz, hls, hlz, H111⟩
      refine g_weak [(0, .pointer (some ⟨g, 0, none⟩)), (7, .int .i64 ((i17 : Int))), (8, .int .i64 ((k18 : Int))), (11, .slice p2 ls.length c2), (78, .slice r19.p r19.l.length r19.c), (79, .int .i64 ((r19.l.length : Int))), (80, .int .i64 ((z : Int)))] ⟨rfl, rfl, rfl, rfl, rfl, rfl, rfl, trivial⟩ ?_
      refine w_s ?_
      refine w_b ?_
      refine w_e ?_
      refine g_seq ?_
      by_cases hb112 : ((z : Int) : Int) < (r19.l.length : Int)
      ·
       refine g_cond_t rfl (decide_eq_true hb112) ?_
       refine g_skip ?_
       refine g_then ?_
       refine g_seq ?_
       refine g_block ?_
       refine w_s ?_
       refine w_m ?_
       refine w_v (v := .pointer ((r19.p).map fun q => q.add (z * 5))) (x_idxR z ((rows_in (H111.at (k := 3) rfl) (.inl (List.mem_of_getElem? hr19)))) rfl rfl rfl Try.underlying85 sz87 (by omega)) ?_
       have hlq := ((rows_in (H111.at (k := 3) rfl) (.inl (List.mem_of_getElem? hr19)))).lenL tkE
       obtain ⟨x113, hx113⟩ := ex_at (l := r19.l) (j := z) (by omega)
       clear hlq
       refine w_v (v := .agg #[.string (x113.name), .int .i64 (x113.failed), .int .i64 (x113.after), .bool x113.ans, .bool x113.told]) (x_loadRA (vs := tkL x113) z ((rows_in (H111.at (k := 3) rfl) (.inl (List.mem_of_getElem? hr19)))) (by omega) rfl rfl Try.underlying87 rfl sz87 (by rfl) (tkE.flAt hx113)) ?_
       refine l_of (s_alloc H111 (wt0 rfl) rfl rfl rfl ze87 ?_)
       intro g114 wq115 H116
       refine w_a ?_
       refine l_of (w_st #[.string (x113.name), .int .i64 (x113.failed), .int .i64 (x113.after), .bool x113.ans, .bool x113.told] H116 0 ?_)
       intro wq117 H118
       refine w_e ?_
       refine w_s ?_
       refine w_r2 ?_
       refine w_b (v := .bool (!decide (((z : Int) : Int) = (k18 : Int)))) (hb := b_neq) ?_
       refine w_e ?_
       by_cases hb119 : ((z : Int) : Int) = (k18 : Int)
       ·
        refine g_cond_f rfl (nf hb119) ?_
        refine g_skip ?_
        refine g_in ?_
        refine g_then ?_
        refine g_region ?_
        refine w_b (v := .int .i64 (((z + 1 : Nat) : Int))) (hb := (b_add (by rw [w64 (by omega)]; omega))) ?_
        refine w_m ?_
        refine w_e ?_
        refine g_round (i := (z, ls, p2, c2)) ((z + 1), ls, p2, c2) ?_ ?_ ?_
        · exact ⟨rfl, rfl, rfl, rfl, rfl, rfl, rfl, trivial⟩
        · exact ⟨by omega, (by rw [er_eq hx113 (by omega)]; exact hls), (by omega), (H118.takes [1, 2, 3, 4, 5] (by decide))⟩
        · (try dsimp only); omega
       ·
        refine g_cond_t rfl (nt hb119) ?_
        refine g_region ?_
        refine w_m ?_
        refine w_v (v := .agg #[.string (x113.name), .int .i64 (x113.failed), .int .i64 (x113.after), .bool x113.ans, .bool x113.told]) (x_loadA H118 0 rfl rfl Try.underlying87 rfl sz87 rfl rfl rfl) ?_
        refine l_of (s_buildSlice H118 (wt0 rfl) rfl rfl rfl (vs := [.agg #[.string (x113.name), .int .i64 (x113.failed), .int .i64 (x113.after), .bool x113.ans, .bool x113.told]]) rfl Try.underlying85 sz87 ze87 rfl rfl (cells := #[.string (x113.name), .int .i64 (x113.failed), .int .i64 (x113.after), .bool x113.ans, .bool x113.told]) (by kernel_rfl) ?_)
        intro g120 wq121 H122
        have hln127a := (H122.rwReads (k := 2) rfl).lenL tkE
        have hln127 : (ls ++ [x113]).length = ls.length + 1 := by simp only [List.length_append, List.length_cons, List.length_nil] <;> omega
        refine l_of (s_appBn (m := 1) (l := ls) (l2 := [x113]) tkE H122 2 (j0 := 0) rfl rfl ⟨rfl, Nat.le_refl _⟩ (wt0 rfl) rfl rfl rfl rfl rfl rfl Try.underlying85 inf87 rfl (by decide) (by omega) ?_)
        intro p123 c124 wq125 H126
        refine w_a ?_
        refine g_nil ?_
        refine g_in ?_
        refine g_then ?_
        refine g_weak [(0, .pointer (some ⟨g, 0, none⟩)), (7, .int .i64 ((i17 : Int))), (8, .int .i64 ((k18 : Int))), (11, .slice p123 ((ls ++ [x113]).length) c124), (78, .slice r19.p r19.l.length r19.c), (79, .int .i64 ((r19.l.length : Int))), (80, .int .i64 ((z : Int)))] ⟨rfl, rfl, rfl, rfl, rfl, rfl, rfl, trivial⟩ ?_
        refine g_region ?_
        refine w_b (v := .int .i64 (((z + 1 : Nat) : Int))) (hb := (b_add (by rw [w64 (by omega)]; omega))) ?_
        refine w_m ?_
        refine w_e ?_
        refine g_round (i := (z, ls, p2, c2)) ((z + 1), (ls ++ [x113]), p123, c124) ?_ ?_ ?_
        · exact ⟨rfl, rfl, rfl, rfl, rfl, rfl, rfl, trivial⟩
        · exact ⟨by omega, (by rw [er_ne hx113 (by omega), hls]; rfl), (by simp; omega), (H126.takes [2, 3, 4, 5, 6] (by decide))⟩
        · (try dsimp only); omega
      ·
       refine g_cond_f rfl (decide_eq_false hb112) ?_
       refine g_exit ?_
       refine g_then_exit ?_
       refine g_then_exit ?_
       refine g_in_hit ?_
       refine g_then ?_
       refine w_s ?_
       refine w_r3 ?_
       refine w_1 H111 1 ?_
       refine w_r2 ?_
       refine w_v (v := .pointer ((P).map fun q => q.add (i17 * 1))) (x_idxR i17 (H111.rwReads (k := 2) rfl) rfl rfl rfl Try.underlying82 sz85 (by omega)) ?_
       refine l_of (s_stoL (j := i17) rowE (⟨p2, c2, ls⟩ : Ro Tk) H111 2 (wt0 rfl) rfl rfl rfl rfl rfl rfl sz85 (by omega) ?_)
       intro wq128 H129
       refine w_e ?_
       refine g_weak [] trivial ?_
       refine w_s ?_
       refine w_a ?_
       refine w_e ?_
       refine g_ret ?_
       refine fin_ret [.tmp 6] [.int .i64 0] rfl ⟨rfl, trivial⟩ ?_
       have H130 := S.tkPut (l := ls) hr19 (H129.takes [0, 3, 2, 1, 4] (by decide))
       rw [List.take_of_length_le (by omega)] at hls
       have hE : answerE (RPS rs now und nm ev beg who dne stp hol) n iv = 0 := by unfold answerE; rw [if_neg (by omega), if_neg (by show ¬ tellS now n ≠ 0; rw [htl25]; decide), if_neg (by unfold RPS; rw [hun27]; simp)]
       have hw := hw3 hun27 hb103
       rw [Bool.or_eq_true] at hw
       have hc : (RPS rs now und nm ev beg who dne stp hol).cur = some (nm, ev) := by unfold RPS; rw [hun27]; rfl
       exact ⟨P, C, (rs.set i17 (⟨p2, c2, ls⟩ : Ro Tk)), n, false, nm, ev, beg, true, dne, stp, (n + iv), (by unfold answerA; rw [if_pos hE, hc]; show _ = (match (RPS rs now und nm ev beg who dne stp hol).place nm with | some p => _ | none => _); rw [hfx21, hls]; unfold RPS frontP ansT; simp only [set_T, getD_T hr19]; simp [hb1, hb41, hb75, hb103, hb112, hw]), (by rw [hE]; rfl), H130.takes [0, 1, 2, 3] (by decide)⟩
     ·
      refine g_cond_f rfl (decide_eq_false hb103) ?_
      refine g_skip ?_
      refine g_in ?_
      refine g_then ?_
      refine w_s ?_
      refine w_v (v := .agg #[.string (x20.name), .int .i64 0, .int .i64 0, .bool true, .bool false]) (x_loadA H74 0 rfl rfl Try.underlying87 rfl sz87 rfl rfl rfl) ?_
      refine l_of (s_buildSlice H74 (wt0 rfl) rfl rfl rfl (vs := [.agg #[.string (x20.name), .int .i64 0, .int .i64 0, .bool true, .bool false]]) rfl Try.underlying85 sz87 ze87 rfl rfl (cells := #[.string (x20.name), .int .i64 0, .int .i64 0, .bool true, .bool false]) (by kernel_rfl) ?_)
      intro g131 wq132 H133
      have H134 : S wq132 [Rw 87 5 (some ⟨g131, 0, none⟩) 1 1 (fl tkL ([(⟨x20.name, 0, 0, true, false⟩ : Tk)])), Ob g32 (.cells #[.string (x20.name), .int .i64 0, .int .i64 0, .bool true, .bool false] 87 (0, 0)), Ob g (.cells #[.slice P rs.length C, .int .i64 n, .bool false, .string nm, .int .i64 ev, .bool beg, .bool who, .bool dne, .bool stp, .int .i64 ((n + iv))] 84 (0, 0)), Rw 85 1 P rs.length C (fl rowL rs), RowsI 87 5 tkL rs, Old w (fps [Ob g (.cells #[.slice P rs.length C, .int .i64 now, .bool und, .string nm, .int .i64 ev, .bool beg, .bool who, .bool dne, .bool stp, .int .i64 hol] 84 (0, 0)), Rw 85 1 P rs.length C (fl rowL rs), RowsI 87 5 tkL rs])] := S.obFl tkE H133 (k := 0) rfl rfl (by decide) rfl
      refine w_a ?_
      refine w_e ?_
      refine g_seq ?_
      refine w_s ?_
      refine w_r3 ?_
      refine w_1 H134 2 ?_
      refine w_m ?_
      refine w_v (v := .pointer ((P).map fun q => q.add (i17 * 1))) (x_idxR i17 (H134.rwReads (k := 3) rfl) rfl rfl rfl Try.underlying82 sz85 (by omega)) ?_
      refine w_v (v := .slice r19.p r19.l.length r19.c) (x_loadR1 i17 (H134.rwReads (k := 3) rfl) (by omega) rfl rfl Try.underlying85 rfl (rowE.flAt1 hr19 rfl)) ?_
      refine w_v (v := .int .i64 ((r19.l.length : Int))) (x_lenl rfl rfl Try.underlying85) ?_
      refine w_m ?_
      refine w_e ?_
      refine g_weak [(0, .pointer (some ⟨g, 0, none⟩)), (7, .int .i64 ((i17 : Int))), (8, .int .i64 ((k18 : Int))), (11, .slice (some ⟨g131, 0, none⟩) 1 1), (78, .slice r19.p r19.l.length r19.c), (79, .int .i64 ((r19.l.length : Int))), (80, .int .i64 0)] ⟨rfl, rfl, rfl, rfl, rfl, rfl, rfl, trivial⟩ ?_
      refine g_block ?_
      refine g_loop (ι := Nat × List Tk × Option Addr × Nat) (fun (z, ls, p2, c2) => [(0, .pointer (some ⟨g, 0, none⟩)), (7, .int .i64 ((i17 : Int))), (8, .int .i64 ((k18 : Int))), (11, .slice p2 ls.length c2), (78, .slice r19.p r19.l.length r19.c), (79, .int .i64 ((r19.l.length : Int))), (80, .int .i64 ((z : Int)))]) (fun (z, ls, p2, c2) wx => (z ≤ r19.l.length) ∧ (ls = (⟨x20.name, 0, 0, true, false⟩ : Tk) :: (r19.l.take z).eraseIdx k18) ∧ (ls.length ≤ z + 1) ∧ S wx [Rw 87 5 p2 ls.length c2 (fl tkL ls), Ob g (.cells #[.slice P rs.length C, .int .i64 n, .bool false, .string nm, .int .i64 ev, .bool beg, .bool who, .bool dne, .bool stp, .int .i64 ((n + iv))] 84 (0, 0)), Rw 85 1 P rs.length C (fl rowL rs), RowsI 87 5 tkL rs, Old w (fps [Ob g (.cells #[.slice P rs.length C, .int .i64 now, .bool und, .string nm, .int .i64 ev, .bool beg, .bool who, .bool dne, .bool stp, .int .i64 hol] 84 (0, 0)), Rw 85 1 P rs.length C (fl rowL rs), RowsI 87 5 tkL rs])]) (fun (z, ls, p2, c2) => r19.l.length - z) (0, [(⟨x20.name, 0, 0, true, false⟩ : Tk)], (some ⟨g131, 0, none⟩), 1) ⟨rfl, rfl, rfl, rfl, rfl, rfl, rfl, trivial⟩ ⟨Nat.zero_le _, (by simp), (by simp), (H134.takes [0, 2, 3, 4, 5] (by decide))⟩ ?_
      rintro ⟨z, ls, p2, c2⟩ wq135 ⟨hz, hls, hlz, H136⟩
      refine g_weak [(0, .pointer (some ⟨g, 0, none⟩)), (7, .int .i64 ((i17 : Int))), (8, .int .i64 ((k18 : Int))), (11, .slice p2 ls.length c2), (78, .slice r19.p r19.l.length r19.c), (79, .int .i64 ((r19.l.length : Int))), (80, .int .i64 ((z : Int)))] ⟨rfl, rfl, rfl, rfl, rfl, rfl, rfl, trivial⟩ ?_
      refine w_s ?_
      refine w_b ?_
      refine w_e ?_
      refine g_seq ?_
      by_cases hb137 : ((z : Int) : Int) < (r19.l.length : Int)
      ·
       refine g_cond_t rfl (decide_eq_true hb137) ?_
       refine g_skip ?_
       refine g_then ?_
       refine g_seq ?_
       refine g_block ?_
       refine w_s ?_
       refine w_m ?_
       refine w_v (v := .pointer ((r19.p).map fun q => q.add (z * 5))) (x_idxR z ((rows_in (H136.at (k := 3) rfl) (.inl (List.mem_of_getElem? hr19)))) rfl rfl rfl Try.underlying85 sz87 (by omega)) ?_
       have hlq := ((rows_in (H136.at (k := 3) rfl) (.inl (List.mem_of_getElem? hr19)))).lenL tkE
       obtain ⟨x138, hx138⟩ := ex_at (l := r19.l) (j := z) (by omega)
       clear hlq
       refine w_v (v := .agg #[.string (x138.name), .int .i64 (x138.failed), .int .i64 (x138.after), .bool x138.ans, .bool x138.told]) (x_loadRA (vs := tkL x138) z ((rows_in (H136.at (k := 3) rfl) (.inl (List.mem_of_getElem? hr19)))) (by omega) rfl rfl Try.underlying87 rfl sz87 (by rfl) (tkE.flAt hx138)) ?_
       refine l_of (s_alloc H136 (wt0 rfl) rfl rfl rfl ze87 ?_)
       intro g139 wq140 H141
       refine w_a ?_
       refine l_of (w_st #[.string (x138.name), .int .i64 (x138.failed), .int .i64 (x138.after), .bool x138.ans, .bool x138.told] H141 0 ?_)
       intro wq142 H143
       refine w_e ?_
       refine w_s ?_
       refine w_r2 ?_
       refine w_b (v := .bool (!decide (((z : Int) : Int) = (k18 : Int)))) (hb := b_neq) ?_
       refine w_e ?_
       by_cases hb144 : ((z : Int) : Int) = (k18 : Int)
       ·
        refine g_cond_f rfl (nf hb144) ?_
        refine g_skip ?_
        refine g_in ?_
        refine g_then ?_
        refine g_region ?_
        refine w_b (v := .int .i64 (((z + 1 : Nat) : Int))) (hb := (b_add (by rw [w64 (by omega)]; omega))) ?_
        refine w_m ?_
        refine w_e ?_
        refine g_round (i := (z, ls, p2, c2)) ((z + 1), ls, p2, c2) ?_ ?_ ?_
        · exact ⟨rfl, rfl, rfl, rfl, rfl, rfl, rfl, trivial⟩
        · exact ⟨by omega, (by rw [er_eq hx138 (by omega)]; exact hls), (by omega), (H143.takes [1, 2, 3, 4, 5] (by decide))⟩
        · (try dsimp only); omega
       ·
        refine g_cond_t rfl (nt hb144) ?_
        refine g_region ?_
        refine w_m ?_
        refine w_v (v := .agg #[.string (x138.name), .int .i64 (x138.failed), .int .i64 (x138.after), .bool x138.ans, .bool x138.told]) (x_loadA H143 0 rfl rfl Try.underlying87 rfl sz87 rfl rfl rfl) ?_
        refine l_of (s_buildSlice H143 (wt0 rfl) rfl rfl rfl (vs := [.agg #[.string (x138.name), .int .i64 (x138.failed), .int .i64 (x138.after), .bool x138.ans, .bool x138.told]]) rfl Try.underlying85 sz87 ze87 rfl rfl (cells := #[.string (x138.name), .int .i64 (x138.failed), .int .i64 (x138.after), .bool x138.ans, .bool x138.told]) (by kernel_rfl) ?_)
        intro g145 wq146 H147
        have hln152a := (H147.rwReads (k := 2) rfl).lenL tkE
        have hln152 : (ls ++ [x138]).length = ls.length + 1 := by simp only [List.length_append, List.length_cons, List.length_nil] <;> omega
        refine l_of (s_appBn (m := 1) (l := ls) (l2 := [x138]) tkE H147 2 (j0 := 0) rfl rfl ⟨rfl, Nat.le_refl _⟩ (wt0 rfl) rfl rfl rfl rfl rfl rfl Try.underlying85 inf87 rfl (by decide) (by omega) ?_)
        intro p148 c149 wq150 H151
        refine w_a ?_
        refine g_nil ?_
        refine g_in ?_
        refine g_then ?_
        refine g_weak [(0, .pointer (some ⟨g, 0, none⟩)), (7, .int .i64 ((i17 : Int))), (8, .int .i64 ((k18 : Int))), (11, .slice p148 ((ls ++ [x138]).length) c149), (78, .slice r19.p r19.l.length r19.c), (79, .int .i64 ((r19.l.length : Int))), (80, .int .i64 ((z : Int)))] ⟨rfl, rfl, rfl, rfl, rfl, rfl, rfl, trivial⟩ ?_
        refine g_region ?_
        refine w_b (v := .int .i64 (((z + 1 : Nat) : Int))) (hb := (b_add (by rw [w64 (by omega)]; omega))) ?_
        refine w_m ?_
        refine w_e ?_
        refine g_round (i := (z, ls, p2, c2)) ((z + 1), (ls ++ [x138]), p148, c149) ?_ ?_ ?_
        · exact ⟨rfl, rfl, rfl, rfl, rfl, rfl, rfl, trivial⟩
        · exact ⟨by omega, (by rw [er_ne hx138 (by omega), hls]; rfl), (by simp; omega), (H151.takes [2, 3, 4, 5, 6] (by decide))⟩
        · (try dsimp only); omega
      ·
       refine g_cond_f rfl (decide_eq_false hb137) ?_
       refine g_exit ?_
       refine g_then_exit ?_
       refine g_then_exit ?_
       refine g_in_hit ?_
       refine g_then ?_
       refine w_s ?_
       refine w_r3 ?_
       refine w_1 H136 1 ?_
       refine w_r2 ?_
       refine w_v (v := .pointer ((P).map fun q => q.add (i17 * 1))) (x_idxR i17 (H136.rwReads (k := 2) rfl) rfl rfl rfl Try.underlying82 sz85 (by omega)) ?_
       refine l_of (s_stoL (j := i17) rowE (⟨p2, c2, ls⟩ : Ro Tk) H136 2 (wt0 rfl) rfl rfl rfl rfl rfl rfl sz85 (by omega) ?_)
       intro wq153 H154
       refine w_e ?_
       refine g_weak [] trivial ?_
       refine w_s ?_
       refine w_a ?_
       refine w_e ?_
       refine g_ret ?_
       refine fin_ret [.tmp 6] [.int .i64 0] rfl ⟨rfl, trivial⟩ ?_
       have H155 := S.tkPut (l := ls) hr19 (H154.takes [0, 3, 2, 1, 4] (by decide))
       rw [List.take_of_length_le (by omega)] at hls
       have hE : answerE (RPS rs now und nm ev beg who dne stp hol) n iv = 0 := by unfold answerE; rw [if_neg (by omega), if_neg (by show ¬ tellS now n ≠ 0; rw [htl25]; decide), if_neg (by unfold RPS; rw [hun27]; simp)]
       have hc : (RPS rs now und nm ev beg who dne stp hol).cur = some (nm, ev) := by unfold RPS; rw [hun27]; rfl
       exact ⟨P, C, (rs.set i17 (⟨p2, c2, ls⟩ : Ro Tk)), n, false, nm, ev, beg, who, dne, stp, (n + iv), (by unfold answerA; rw [if_pos hE, hc]; show _ = (match (RPS rs now und nm ev beg who dne stp hol).place nm with | some p => _ | none => _); rw [hfx21, hls]; unfold RPS frontP ansT; simp only [set_T, getD_T hr19]; simp [hb1, hb41, hb75, hb103, hb137]), (by rw [hE]; rfl), H155.takes [0, 1, 2, 3] (by decide)⟩
end Go.Proofs.Ytibdlnjnomikjaa
