import Derived.Test.YtibdlnjnomikjaaFk
import Derived.Test.YtibdlnjnomikjaaUd
set_option linter.unusedSimpArgs false
set_option linter.unusedVariables false
namespace Go.Proofs.Ytibdlnjnomikjaa
open Go.RowKit

/-- What is met so far of the least time. -/
def WInv (ev til n : Int) (l : List PlT) (out : Int) : Prop := (out = -1 ∧ l.foldl (whenS ev til) (-1) = -1) ∨ (0 ≤ l.foldl (whenS ev til) (-1) ∧ out = max (l.foldl (whenS ev til) (-1)) n)
theorem WInv.nil (ev til n : Int) : WInv ev til n [] (-1) := .inl ⟨rfl, rfl⟩
theorem WInv.yes {ev til n out W : Int} {l : List PlT} {p : PlT} (h : WInv ev til n l out) (hn : 0 ≤ n) (h2 : (freeS ev til p.2.2).2 = true) (h1 : 0 ≤ (freeS ev til p.2.2).1) (hW : W = max n (freeS ev til p.2.2).1) (hc : out < 0 ∨ W < out) : WInv ev til n (l ++ [p]) W := by
  have hm : l.foldl (whenS ev til) (-1) < 0 ∨ (freeS ev til p.2.2).1 < l.foldl (whenS ev til) (-1) := by
    rcases h with ⟨h3, h4⟩ | ⟨h3, h4⟩
    · left; omega
    · right; omega
  have e : (l ++ [p]).foldl (whenS ev til) (-1) = (freeS ev til p.2.2).1 := by
    rw [List.foldl_append]; exact if_pos ⟨h2, hm⟩
  right; rw [e]; exact ⟨h1, by omega⟩
theorem WInv.no {ev til n out W : Int} {l : List PlT} {p : PlT} (h : WInv ev til n l out) (hn : 0 ≤ n) (h2 : (freeS ev til p.2.2).2 = true) (h1 : 0 ≤ (freeS ev til p.2.2).1) (hW : W = max n (freeS ev til p.2.2).1) (hc : ¬ out < 0) (hc2 : ¬ W < out) : WInv ev til n (l ++ [p]) out := by
  have e : (l ++ [p]).foldl (whenS ev til) (-1) = whenS ev til (l.foldl (whenS ev til) (-1)) p := by rw [List.foldl_append]; rfl
  rcases h with ⟨h3, h4⟩ | ⟨h3, h4⟩
  · omega
  · right; rw [e]
    generalize l.foldl (whenS ev til) (-1) = m at h3 h4 ⊢
    by_cases h5 : (freeS ev til p.2.2).2 = true ∧ (m < 0 ∨ (freeS ev til p.2.2).1 < m)
    · rw [show whenS ev til m p = _ from if_pos h5]; exact ⟨h1, by omega⟩
    · rw [show whenS ev til m p = _ from if_neg h5]; exact ⟨h3, h4⟩
theorem WInv.some {ev til n out : Int} {l : List PlT} (h : WInv ev til n l out) (hl : l ≠ []) (hp : ∀ p ∈ l, (freeS ev til p.2.2).2 = true ∧ 0 ≤ (freeS ev til p.2.2).1) : 0 ≤ l.foldl (whenS ev til) (-1) := by
  rcases h with ⟨_, h4⟩ | ⟨h3, _⟩
  · exfalso
    have key : ∀ (l : List PlT) (m : Int), (∀ p ∈ l, (freeS ev til p.2.2).2 = true ∧ 0 ≤ (freeS ev til p.2.2).1) → 0 ≤ m → 0 ≤ l.foldl (whenS ev til) m := by
      intro l
      induction l with
      | nil => intro m _ hm; exact hm
      | cons p l ih =>
        intro m hp hm
        refine ih _ (fun q hq => hp q (List.mem_cons_of_mem _ hq)) ?_
        unfold whenS; split
        · exact (hp p List.mem_cons_self).2
        · exact hm
    obtain ⟨p, l', rfl⟩ := List.exists_cons_of_ne_nil hl
    have h5 := (hp p List.mem_cons_self)
    have := key l' (whenS ev til (-1) p) (fun q hq => hp q (List.mem_cons_of_mem _ hq)) (by unfold whenS; rw [if_pos ⟨h5.1, .inl (by decide)⟩]; exact h5.2)
    have e : (p :: l').foldl (whenS ev til) (-1) = l'.foldl (whenS ev til) (whenS ev til (-1) p) := rfl
    rw [← e, h4] at this
    omega
  · exact h3
theorem WInv.pos {ev til n out : Int} {l : List PlT} (h : WInv ev til n l out) (h0 : 0 ≤ l.foldl (whenS ev til) (-1)) : out = max (l.foldl (whenS ev til) (-1)) n := by
  rcases h with ⟨_, h4⟩ | ⟨_, h4⟩
  · omega
  · exact h4
theorem least_stp {til n : Int} (hn : 0 ≤ n) : ∀ (l : List PlT) (m : Int), m = 0 ∨ m = -1 → (l.foldl (whenS 2 til) m = if m = 0 ∨ (l.find? fun p => okS 2 til n p.2.2) ≠ none then 0 else -1)
  | [], m, h => by rcases h with rfl | rfl <;> simp
  | p :: l, m, h => by
    have e : okS 2 til n p.2.2 = (p.2.2.ans && !p.2.2.told) := by unfold okS freeS; simp [hn]
    have e2 : whenS 2 til m p = if m = 0 ∨ okS 2 til n p.2.2 = true then 0 else -1 := by
      rw [e]; unfold whenS freeS
      rcases h with rfl | rfl <;> simp <;> split <;> simp_all
    rw [List.foldl_cons, e2, least_stp hn l _ (by split <;> simp), List.find?_cons]
    cases hk : okS 2 til n p.2.2 <;> rcases h with rfl | rfl <;> simp
def zeroR (T : List (List Tk)) (i : Nat) : List (List Tk) := (T.take i).map (fun l => l.map zeroT) ++ T.drop i
def zeroL (l : List Tk) (k : Nat) : List Tk := (l.take k).map zeroT ++ l.drop k
theorem zeroL_len (l : List Tk) (k : Nat) : (zeroL l k).length = l.length := by unfold zeroL; simp; omega
theorem zeroL_0 (l : List Tk) : zeroL l 0 = l := by unfold zeroL; simp
theorem zeroL_all {l : List Tk} {k : Nat} (h : l.length ≤ k) : zeroL l k = l.map zeroT := by unfold zeroL; rw [List.take_of_length_le h, List.drop_eq_nil_of_le h, List.append_nil]
theorem zero_step {α : Type} (f : α → α) {l : List α} {k : Nat} {x : α} (h : l[k]? = some x) : ((l.take k).map f ++ l.drop k).set k (f x) = (l.take (k + 1)).map f ++ l.drop (k + 1) := by
  obtain ⟨hk, e⟩ := List.getElem?_eq_some_iff.1 h
  have hl : ((l.take k).map f).length = k := by simp; omega
  rw [List.set_append_right k (f x) (by omega), take_snoc h, List.drop_eq_getElem_cons hk, e, hl, Nat.sub_self, List.map_append, List.append_assoc]
  rfl
theorem zero_at {α : Type} (f : α → α) {l : List α} {k : Nat} {x : α} (h : l[k]? = some x) : ((l.take k).map f ++ l.drop k)[k]? = some x := by
  obtain ⟨hk, e⟩ := List.getElem?_eq_some_iff.1 h
  have hl : ((l.take k).map f).length = k := by simp; omega
  rw [List.getElem?_append_right (by omega), hl, Nat.sub_self, List.getElem?_drop]; simpa using h
set_option maxRecDepth 20000 in
set_option maxHeartbeats 4000000 in
theorem order_Rk {g C : Nat} {P : Option Addr} {rs : List (Ro Tk)} {now ev hol : Int} {nm : ByteArray} {und beg who dne stp : Bool} (hrs : rs.length ≤ 20) (hrl : ∀ r ∈ rs, r.l.length ≤ 20) {m : Nat} (hq : m < rs.length)  (w : World) (HS : S w [Ob g (.cells #[.slice P rs.length C, .int .i64 now, .bool und, .string nm, .int .i64 ev, .bool beg, .bool who, .bool dne, .bool stp, .int .i64 hol] 84 (0, 0)), Rw 85 1 P rs.length C (fl rowL rs), RowsI 87 5 tkL rs]) : Calls Try.prog 50 #[.pointer (some ⟨g, 0, none⟩), .int .i64 ((m : Int))] w fun e w' => ∃ p' c', e = .returned (.tuple #[.slice p' (orderV (RPS rs now und nm ev beg who dne stp hol) m).length c', .int .i64 0]) ∧ S w' ([Rw 9 1 p' ((orderV (RPS rs now und nm ev beg who dne stp hol) m).length) c' (fl strL (orderV (RPS rs now und nm ev beg who dne stp hol) m)), Ob g (.cells #[.slice P rs.length C, .int .i64 now, .bool und, .string nm, .int .i64 ev, .bool beg, .bool who, .bool dne, .bool stp, .int .i64 hol] 84 (0, 0)), Rw 85 1 P rs.length C (fl rowL rs), RowsI 87 5 tkL rs] ++ [Old w (fps [Ob g (.cells #[.slice P rs.length C, .int .i64 now, .bool und, .string nm, .int .i64 ev, .bool beg, .bool who, .bool dne, .bool stp, .int .i64 hol] 84 (0, 0)), Rw 85 1 P rs.length C (fl rowL rs), RowsI 87 5 tkL rs])]) := by
 have H0 := HS.beginI
 refine enter 43 Try.func50 rfl rfl rfl ?_
 refine g_weak [(0, .pointer (some ⟨g, 0, none⟩)), (1, .int .i64 ((m : Int)))] ⟨rfl, rfl, trivial⟩ ?_
 refine w_s ?_
 refine w_r2 ?_
 refine w_e ?_
 refine g_seq ?_
 refine g_block ?_
 refine w_s ?_
 refine w_m ?_
 refine w_b (v := .bool false) (hb := (b_eqN (r := false) Try.underlying48 rfl)) ?_
 refine w_a ?_
 refine w_e ?_
 refine g_cond_f rfl rfl ?_
 refine w_s ?_
 refine w_m ?_
 refine w_b ?_
 refine w_m ?_
 refine l_of (s_val (v := .int .i64 ((m : Int))) (wt1 rfl rfl rfl rfl (decide_eq_false (by omega))) rfl rfl (x_move rfl rfl) ?_)
 refine l_of (s_val (v := .pointer (some ⟨g, 0, none⟩)) (wt1 rfl rfl rfl rfl (decide_eq_false (by omega))) rfl rfl (x_move rfl rfl) ?_)
 refine l_of (s_val (v := .pointer (some ⟨g, 0, none⟩)) (wt1 rfl rfl rfl rfl (decide_eq_false (by omega))) rfl rfl (x_nilCheck rfl rfl) ?_)
 refine l_of (s_val (v := .pointer (some ⟨g, 0, none⟩)) (wt1 rfl rfl rfl rfl (decide_eq_false (by omega))) rfl rfl (x_fieldAddr rfl rfl fo84_0 rfl) ?_)
 refine l_of (s_val (v := .slice P rs.length C) (wt1 rfl rfl rfl rfl (decide_eq_false (by omega))) rfl rfl (x_load1 H0 0 rfl rfl Try.underlying82 rfl rfl rfl) ?_)
 refine l_of (s_val (v := .int .i64 ((rs.length : Int))) (wt1 rfl rfl rfl rfl (decide_eq_false (by omega))) rfl rfl (x_lenl rfl rfl Try.underlying82) ?_)
 refine l_of (s_val (v := .bool (decide (((rs.length : Int) : Int) ≤ (m : Int)))) (wt1 rfl rfl rfl rfl (decide_eq_false (by omega))) rfl rfl (x_bin rfl rfl rfl b_geq) ?_)
 refine w_v (v := .bool (decide (((rs.length : Int) : Int) ≤ (m : Int)))) (x_pick_f rfl rfl (decide_eq_false (by omega)) rfl) ?_
 refine w_a ?_
 refine w_e ?_
 refine g_weak [(0, .pointer (some ⟨g, 0, none⟩)), (1, .int .i64 ((m : Int))), (12, .bool (decide (((rs.length : Int) : Int) ≤ (m : Int))))] ⟨rfl, rfl, rfl, trivial⟩ ?_
 refine g_cond_f rfl (decide_eq_false (by omega)) ?_
 refine g_skip ?_
 refine g_in ?_
 refine g_then ?_
 refine w_s ?_
 have H1 := H0.nilFl 9 1 strL
 refine w_a ?_
 refine w_e ?_
 refine g_seq ?_
 refine w_s ?_
 refine w_r3 ?_
 refine w_1 H1 1 ?_
 refine w_m ?_
 refine w_v (v := .pointer ((P).map fun q => q.add (m * 1))) (x_idxR m (H1.rwReads (k := 2) rfl) rfl rfl rfl Try.underlying82 sz85 (by omega)) ?_
 have hlq := (H1.rwReads (k := 2) rfl).lenL rowE
 obtain ⟨x2, hx2⟩ := ex_at (l := rs) (j := m) (by omega)
 clear hlq
 have hrlx2 := hrl x2 (List.mem_of_getElem? hx2)
 have hTx2 := map_at hx2
 refine w_v (v := .slice x2.p x2.l.length x2.c) (x_loadR1 m (H1.rwReads (k := 2) rfl) (by omega) rfl rfl Try.underlying85 rfl (rowE.flAt1 hx2 rfl)) ?_
 refine w_v (v := .int .i64 ((x2.l.length : Int))) (x_lenl rfl rfl Try.underlying85) ?_
 refine w_m ?_
 refine w_e ?_
 refine g_block ?_
 refine g_loop (ι := Nat × List ByteArray × Option Addr × Nat) (fun (z, ls, p2, c2) => [(6, .slice p2 ls.length c2), (30, .slice x2.p x2.l.length x2.c), (31, .int .i64 ((x2.l.length : Int))), (32, .int .i64 ((z : Int)))]) (fun (z, ls, p2, c2) wx => (z ≤ x2.l.length) ∧ (ls = (x2.l.take z).map Tk.name) ∧ (ls.length ≤ z) ∧ S wx [Rw 9 1 p2 ls.length c2 (fl strL ls), Ob g (.cells #[.slice P rs.length C, .int .i64 now, .bool und, .string nm, .int .i64 ev, .bool beg, .bool who, .bool dne, .bool stp, .int .i64 hol] 84 (0, 0)), Rw 85 1 P rs.length C (fl rowL rs), RowsI 87 5 tkL rs, Old w (fps [Ob g (.cells #[.slice P rs.length C, .int .i64 now, .bool und, .string nm, .int .i64 ev, .bool beg, .bool who, .bool dne, .bool stp, .int .i64 hol] 84 (0, 0)), Rw 85 1 P rs.length C (fl rowL rs), RowsI 87 5 tkL rs])]) (fun (z, ls, p2, c2) => x2.l.length - z) (0, [], none, 0) ⟨rfl, rfl, rfl, rfl, trivial⟩ ⟨Nat.zero_le _, (by simp), (Nat.le_refl _), (H1.takes [0, 1, 2, 3, 4] (by decide))⟩ ?_
 rintro ⟨z, ls, p2, c2⟩ wq3 ⟨hz, hls, hlz, H4⟩
 refine g_weak [(6, .slice p2 ls.length c2), (30, .slice x2.p x2.l.length x2.c), (31, .int .i64 ((x2.l.length : Int))), (32, .int .i64 ((z : Int)))] ⟨rfl, rfl, rfl, rfl, trivial⟩ ?_
 refine w_s ?_
 refine w_b ?_
 refine w_e ?_
 refine g_seq ?_
 by_cases hb5 : ((z : Int) : Int) < (x2.l.length : Int)
 ·
  refine g_cond_t rfl (decide_eq_true hb5) ?_
  refine g_skip ?_
  refine g_then ?_
  refine g_seq ?_
  refine g_block ?_
  refine w_s ?_
  refine w_v (v := .pointer ((x2.p).map fun q => q.add (z * 5))) (x_idxR z ((rows_in (H4.at (k := 3) rfl) (.inl (List.mem_of_getElem? hx2)))) rfl rfl rfl Try.underlying85 sz87 (by omega)) ?_
  have hlq := ((rows_in (H4.at (k := 3) rfl) (.inl (List.mem_of_getElem? hx2)))).lenL tkE
  obtain ⟨x6, hx6⟩ := ex_at (l := x2.l) (j := z) (by omega)
  clear hlq
  refine w_v (v := .agg #[.string (x6.name), .int .i64 (x6.failed), .int .i64 (x6.after), .bool x6.ans, .bool x6.told]) (x_loadRA (vs := tkL x6) z ((rows_in (H4.at (k := 3) rfl) (.inl (List.mem_of_getElem? hx2)))) (by omega) rfl rfl Try.underlying87 rfl sz87 (by rfl) (tkE.flAt hx6)) ?_
  refine l_of (s_alloc H4 (wt0 rfl) rfl rfl rfl ze87 ?_)
  intro g7 wq8 H9
  refine l_of (w_st #[.string (x6.name), .int .i64 (x6.failed), .int .i64 (x6.after), .bool x6.ans, .bool x6.told] H9 0 ?_)
  intro wq10 H11
  refine w_e ?_
  refine g_region ?_
  refine w_r2 ?_
  refine w_1 H11 0 ?_
  refine l_of (s_buildSlice H11 (wt0 rfl) rfl rfl rfl (vs := [.string (x6.name)]) rfl Try.underlying37 sz9 ze9 rfl rfl (cells := #[.string (x6.name)]) (by kernel_rfl) ?_)
  intro g12 wq13 H14
  have hln19a := (H14.rwReads (k := 2) rfl).lenL strE
  have hln19 : (ls ++ [x6.name]).length = ls.length + 1 := by simp only [List.length_append, List.length_cons, List.length_nil] <;> omega
  refine l_of (s_appBn (m := 1) (l := ls) (l2 := [x6.name]) strE H14 2 (j0 := 0) rfl rfl ⟨rfl, Nat.le_refl _⟩ (wt0 rfl) rfl rfl rfl rfl rfl rfl Try.underlying37 inf9 rfl (by decide) (by omega) ?_)
  intro p15 c16 wq17 H18
  refine w_a ?_
  refine g_nil ?_
  refine g_in ?_
  refine g_then ?_
  refine g_region ?_
  refine w_b (v := .int .i64 (((z + 1 : Nat) : Int))) (hb := (b_add (by rw [w64 (by omega)]; omega))) ?_
  refine w_m ?_
  refine w_e ?_
  refine g_round (i := (z, ls, p2, c2)) ((z + 1), (ls ++ [x6.name]), p15, c16) ?_ ?_ ?_
  · exact ⟨rfl, rfl, rfl, rfl, trivial⟩
  · exact ⟨by omega, (by rw [take_snoc hx6, List.map_append, hls]; rfl), (by simp; omega), (H18.takes [2, 3, 4, 5, 6] (by decide))⟩
  · (try dsimp only); omega
 ·
  refine g_cond_f rfl (decide_eq_false hb5) ?_
  refine g_exit ?_
  refine g_then_exit ?_
  refine g_then_exit ?_
  refine g_in_hit ?_
  refine g_then ?_
  refine w_s ?_
  refine w_r3 ?_
  refine w_e ?_
  refine g_ret ?_
  refine fin_ret [.tmp 4, .tmp 5] [.slice p2 ls.length c2, .int .i64 0] rfl ⟨rfl, rfl, trivial⟩ ?_
  have hV : orderV (RPS rs now und nm ev beg who dne stp hol) m = ls := by unfold orderV orderE; rw [if_pos (by rw [if_neg]; unfold RPS; simp; omega)]; show List.map Tk.name ((rs.map fun r => r.l).getD _ []) = _; rw [Int.toNat_natCast, getD_T hx2, hls, List.take_of_length_le (by omega)]
  exact ⟨p2, c2, by rw [hV]; rfl, by rw [hV]; exact H4.takes [0, 1, 2, 3, 4] (by decide)⟩
set_option maxRecDepth 20000 in
set_option maxHeartbeats 4000000 in
theorem order_Re {g C : Nat} {P : Option Addr} {rs : List (Ro Tk)} {now ev hol : Int} {nm : ByteArray} {und beg who dne stp : Bool} (hrs : rs.length ≤ 20) (hrl : ∀ r ∈ rs, r.l.length ≤ 20) {q : Int} (hq : q < 0 ∨ (rs.length : Int) ≤ q)  (w : World) (HS : S w [Ob g (.cells #[.slice P rs.length C, .int .i64 now, .bool und, .string nm, .int .i64 ev, .bool beg, .bool who, .bool dne, .bool stp, .int .i64 hol] 84 (0, 0)), Rw 85 1 P rs.length C (fl rowL rs), RowsI 87 5 tkL rs]) : Calls Try.prog 50 #[.pointer (some ⟨g, 0, none⟩), .int .i64 q] w fun e w' => e = .returned (.tuple #[.slice none 0 0, .int .i64 7]) ∧ S w' ([Ob g (.cells #[.slice P rs.length C, .int .i64 now, .bool und, .string nm, .int .i64 ev, .bool beg, .bool who, .bool dne, .bool stp, .int .i64 hol] 84 (0, 0)), Rw 85 1 P rs.length C (fl rowL rs), RowsI 87 5 tkL rs] ++ [Old w (fps [Ob g (.cells #[.slice P rs.length C, .int .i64 now, .bool und, .string nm, .int .i64 ev, .bool beg, .bool who, .bool dne, .bool stp, .int .i64 hol] 84 (0, 0)), Rw 85 1 P rs.length C (fl rowL rs), RowsI 87 5 tkL rs])]) := by
 have H0 := HS.beginI
 refine enter 43 Try.func50 rfl rfl rfl ?_
 refine g_weak [(0, .pointer (some ⟨g, 0, none⟩)), (1, .int .i64 q)] ⟨rfl, rfl, trivial⟩ ?_
 refine w_s ?_
 refine w_r2 ?_
 refine w_e ?_
 refine g_seq ?_
 refine g_block ?_
 refine w_s ?_
 refine w_m ?_
 refine w_b (v := .bool false) (hb := (b_eqN (r := false) Try.underlying48 rfl)) ?_
 refine w_a ?_
 refine w_e ?_
 refine g_cond_f rfl rfl ?_
 refine w_s ?_
 refine w_m ?_
 refine w_b ?_
 refine w_m ?_
 by_cases hb1 : (q : Int) < 0
 ·
  refine w_n (decide_eq_true hb1) ?_
  refine w_n (decide_eq_true hb1) ?_
  refine w_n (decide_eq_true hb1) ?_
  refine w_n (decide_eq_true hb1) ?_
  refine w_n (decide_eq_true hb1) ?_
  refine w_n (decide_eq_true hb1) ?_
  refine w_n (decide_eq_true hb1) ?_
  refine w_v (v := .bool true) (x_pick_t rfl rfl (decide_eq_true hb1) rfl) ?_
  refine w_a ?_
  refine w_e ?_
  refine g_weak [(0, .pointer (some ⟨g, 0, none⟩)), (1, .int .i64 q), (12, .bool true)] ⟨rfl, rfl, rfl, trivial⟩ ?_
  refine g_cond_t rfl rfl ?_
  refine w_s ?_
  refine w_r2 ?_
  refine w_e ?_
  refine g_ret ?_
  refine g_in_ret ?_
  refine g_then_ret ?_
  refine fin_ret [.tmp 4, .tmp 5] [.slice none 0 0, .int .i64 7] rfl ⟨rfl, rfl, trivial⟩ ?_
  exact ⟨rfl, H0.takes [0, 1, 2, 3] (by decide)⟩
 ·
  refine w_g (decide_eq_false hb1) xm ?_
  refine w_g (decide_eq_false hb1) xm ?_
  refine w_g (decide_eq_false hb1) xn ?_
  refine w_g (decide_eq_false hb1) (xf 0) ?_
  refine w_g (decide_eq_false hb1) (xl H0 0) ?_
  refine w_g (v := .int .i64 ((rs.length : Int))) (decide_eq_false hb1) (x_lenl rfl rfl Try.underlying82) ?_
  refine w_g (decide_eq_false hb1) (x_bin rfl rfl rfl b_geq) ?_
  refine w_v (v := .bool (decide (((rs.length : Int) : Int) ≤ q))) (x_pick_f rfl rfl (decide_eq_false hb1) rfl) ?_
  refine w_a ?_
  refine w_e ?_
  refine g_weak [(0, .pointer (some ⟨g, 0, none⟩)), (1, .int .i64 q), (12, .bool (decide (((rs.length : Int) : Int) ≤ q)))] ⟨rfl, rfl, rfl, trivial⟩ ?_
  refine g_cond_t rfl (decide_eq_true (by omega)) ?_
  refine w_s ?_
  refine w_r2 ?_
  refine w_e ?_
  refine g_ret ?_
  refine g_in_ret ?_
  refine g_then_ret ?_
  refine fin_ret [.tmp 4, .tmp 5] [.slice none 0 0, .int .i64 7] rfl ⟨rfl, rfl, trivial⟩ ?_
  exact ⟨rfl, H0.takes [0, 1, 2, 3] (by decide)⟩
theorem free_on {beg dne who stp : Bool} {hol : Int} (x : Tk) (h : stp = false) : (freeS (evS beg (dne && !who) stp) hol x).2 = true := by
  subst h; unfold freeS evS; cases beg <;> cases dne <;> cases who <;> rfl
theorem free_off {beg dne who stp : Bool} {hol : Int} (x : Tk) (h : stp = false) : (freeS (evS beg (dne && !who) stp) hol x).1 = if evS beg (dne && !who) false = 0 then max x.after hol else x.after := by
  subst h; unfold freeS evS; cases beg <;> cases dne <;> cases who <;> rfl
set_option maxRecDepth 20000 in
set_option maxHeartbeats 4000000 in
theorem when_R {g C : Nat} {P : Option Addr} {rs : List (Ro Tk)} {now ev hol : Int} {nm : ByteArray} {und beg who dne stp : Bool} (hrs : rs.length ≤ 20) (hrl : ∀ r ∈ rs, r.l.length ≤ 20) {n : Int} (h0 : 0 ≤ now) (hab : 0 ≤ hol ∧ ∀ r ∈ rs, ∀ x ∈ r.l, 0 ≤ x.after) (hne : flatT 0 (rs.map fun r => r.l) ≠ [])  (w : World) (HS : S w [Ob g (.cells #[.slice P rs.length C, .int .i64 now, .bool und, .string nm, .int .i64 ev, .bool beg, .bool who, .bool dne, .bool stp, .int .i64 hol] 84 (0, 0)), Rw 85 1 P rs.length C (fl rowL rs), RowsI 87 5 tkL rs]) : Calls Try.prog 47 #[.pointer (some ⟨g, 0, none⟩), .int .i64 n] w fun e w' => ∃ (P' : Option Addr) (C' : Nat) (rs' : List (Ro Tk)) (now' : Int) (und' : Bool) (nm' : ByteArray) (ev' : Int) (beg' who' dne' stp' : Bool) (hol' : Int), RPS rs' now' und' nm' ev' beg' who' dne' stp' hol' = whenA (RPS rs now und nm ev beg who dne stp hol) n ∧ e = .returned (.tuple #[.int .i64 (whenV (RPS rs now und nm ev beg who dne stp hol) n), .int .i64 (whenE (RPS rs now und nm ev beg who dne stp hol) n)]) ∧ S w' ([Ob g (.cells #[.slice P' rs'.length C', .int .i64 (now'), .bool und', .string (nm'), .int .i64 (ev'), .bool beg', .bool who', .bool dne', .bool stp', .int .i64 (hol')] 84 (0, 0)), Rw 85 1 P' rs'.length C' (fl rowL rs'), RowsI 87 5 tkL rs'] ++ [Old w (fps [Ob g (.cells #[.slice P rs.length C, .int .i64 now, .bool und, .string nm, .int .i64 ev, .bool beg, .bool who, .bool dne, .bool stp, .int .i64 hol] 84 (0, 0)), Rw 85 1 P rs.length C (fl rowL rs), RowsI 87 5 tkL rs])]) := by
 have H0 := HS.beginI
 refine enter 94 Try.func47 rfl rfl rfl ?_
 refine g_weak [(0, .pointer (some ⟨g, 0, none⟩)), (1, .int .i64 n)] ⟨rfl, rfl, trivial⟩ ?_
 refine w_s ?_
 refine w_r2 ?_
 refine w_e ?_
 refine g_seq ?_
 refine w_s ?_
 refine w_m ?_
 refine w_b (v := .bool false) (hb := (b_eqN (r := false) Try.underlying48 rfl)) ?_
 refine w_e ?_
 refine g_cond_f rfl rfl ?_
 refine g_skip ?_
 refine g_then ?_
 refine g_seq ?_
 refine w_s ?_
 refine w_r4 ?_
 refine w_1 H0 0 ?_
 refine w_b ?_
 refine w_m ?_
 by_cases hb1 : (n : Int) < now
 ·
  refine w_n (decide_eq_true hb1) ?_
  refine w_n (decide_eq_true hb1) ?_
  refine w_v (v := .bool true) (x_pick_t rfl rfl (decide_eq_true hb1) rfl) ?_
  refine w_e ?_
  refine g_weak [(0, .pointer (some ⟨g, 0, none⟩)), (1, .int .i64 n), (26, .bool true)] ⟨rfl, rfl, rfl, trivial⟩ ?_
  refine g_cond_t rfl rfl ?_
  refine w_s ?_
  refine w_r2 ?_
  refine w_e ?_
  refine g_ret ?_
  refine g_then_ret ?_
  refine fin_ret [.tmp 4, .tmp 5] [.int .i64 0, .int .i64 7] rfl ⟨rfl, rfl, trivial⟩ ?_
  have hE : whenE (RPS rs now und nm ev beg who dne stp hol) n = 7 := by unfold whenE tellS; rw [if_pos (by rw [if_pos (by show n < now ∨ _; omega)]; decide)]
  exact ⟨P, C, rs, now, und, nm, ev, beg, who, dne, stp, hol, (by unfold whenA; rw [if_neg (by rw [hE]; decide)]; try rfl), (by unfold whenV; rw [if_neg (by rw [hE]; decide), hE]; rfl), H0.takes [0, 1, 2, 3] (by decide)⟩
 ·
  refine w_g (decide_eq_false hb1) xm ?_
  refine w_g (decide_eq_false hb1) (x_bin rfl rfl rfl b_gtr) ?_
  refine w_v (v := .bool (decide ((1000000000 : Int) < n))) (x_pick_f rfl rfl (decide_eq_false hb1) rfl) ?_
  refine w_e ?_
  refine g_weak [(0, .pointer (some ⟨g, 0, none⟩)), (1, .int .i64 n), (26, .bool (decide ((1000000000 : Int) < n)))] ⟨rfl, rfl, rfl, trivial⟩ ?_
  by_cases hb2 : (1000000000 : Int) < n
  ·
   refine g_cond_t rfl (decide_eq_true hb2) ?_
   refine w_s ?_
   refine w_r2 ?_
   refine w_e ?_
   refine g_ret ?_
   refine g_then_ret ?_
   refine fin_ret [.tmp 4, .tmp 5] [.int .i64 0, .int .i64 7] rfl ⟨rfl, rfl, trivial⟩ ?_
   have hE : whenE (RPS rs now und nm ev beg who dne stp hol) n = 7 := by unfold whenE tellS; rw [if_pos (by rw [if_pos (by show n < now ∨ _; omega)]; decide)]
   exact ⟨P, C, rs, now, und, nm, ev, beg, who, dne, stp, hol, (by unfold whenA; rw [if_neg (by rw [hE]; decide)]; try rfl), (by unfold whenV; rw [if_neg (by rw [hE]; decide), hE]; rfl), H0.takes [0, 1, 2, 3] (by decide)⟩
  ·
   refine g_cond_f rfl (decide_eq_false hb2) ?_
   refine g_skip ?_
   refine g_then ?_
   refine g_seq ?_
   refine w_s ?_
   refine w_r3 ?_
   refine w_1 H0 0 ?_
   refine w_e ?_
   rcases Bool.eq_false_or_eq_true (und) with hb3 | hb3
   ·
    refine g_cond_t rfl hb3 ?_
    refine w_s ?_
    refine w_r2 ?_
    refine w_e ?_
    refine g_ret ?_
    refine g_then_ret ?_
    refine fin_ret [.tmp 4, .tmp 5] [.int .i64 0, .int .i64 9] rfl ⟨rfl, rfl, trivial⟩ ?_
    have hE : whenE (RPS rs now und nm ev beg who dne stp hol) n = 9 := by unfold whenE tellS; rw [show (RPS rs now und nm ev beg who dne stp hol).now = now from rfl, if_neg (by rw [if_neg (by omega)]; decide)]; rw [if_pos (by unfold RPS; rw [hb3]; rfl)]
    exact ⟨P, C, rs, now, und, nm, ev, beg, who, dne, stp, hol, (by unfold whenA; rw [if_neg (by rw [hE]; decide)]; try rfl), (by unfold whenV; rw [if_neg (by rw [hE]; decide), hE]; rfl), H0.takes [0, 1, 2, 3] (by decide)⟩
   ·
    refine g_cond_f rfl hb3 ?_
    refine g_skip ?_
    refine g_then ?_
    refine g_seq ?_
    refine w_s ?_
    refine w_r3 ?_
    refine w_1 H0 0 ?_
    refine w_e ?_
    rcases Bool.eq_false_or_eq_true (stp) with hb4 | hb4
    ·
     refine g_cond_t rfl hb4 ?_
     refine g_seq ?_
     refine w_s ?_
     refine w_r2 ?_
     refine l_of (s_call (wt0 rfl) (x_call' rfl rfl cl63) (next_r hrs hrl (by omega) _ (H0.takes [0, 1, 2] (by decide))) ?_)
     rintro ee13 wq11 hor14
     rcases hor14 with ⟨i5, k6, r7, x8, hr7, hx8, hfx9, rfl, H12⟩ | ⟨hno10, rfl, H12⟩
     ·
      replace H12 : S wq11 [Ob g (.cells #[.slice P rs.length C, .int .i64 now, .bool und, .string nm, .int .i64 ev, .bool beg, .bool who, .bool dne, .bool stp, .int .i64 hol] 84 (0, 0)), Rw 85 1 P rs.length C (fl rowL rs), RowsI 87 5 tkL rs, Old w (fps [Ob g (.cells #[.slice P rs.length C, .int .i64 now, .bool und, .string nm, .int .i64 ev, .bool beg, .bool who, .bool dne, .bool stp, .int .i64 hol] 84 (0, 0)), Rw 85 1 P rs.length C (fl rowL rs), RowsI 87 5 tkL rs])] := by have h := H0.absorbI [0, 1, 2] H12; exact h
      have hrlr7 := hrl r7 (List.mem_of_getElem? hr7)
      have hkl := (List.getElem?_eq_some_iff.1 hx8).1
      have hil := (List.getElem?_eq_some_iff.1 hr7).1
      refine b_ret rfl rfl ?_
      refine w_r3 ?_
      refine l_of (s_alloc H12 (wt0 rfl) rfl rfl rfl ze34 ?_)
      intro g15 wq16 H17
      refine l_of (w_st #[.int .i64 ((i5 : Int)), .int .i64 ((k6 : Int)), .int .i64 n, .int .i64 ((evS beg (dne && !who) stp))] H17 0 ?_)
      intro wq18 H19
      refine w_a ?_
      refine w_e ?_
      refine g_weak [(0, .pointer (some ⟨g, 0, none⟩)), (1, .int .i64 n), (7, .bool true)] ⟨rfl, rfl, rfl, trivial⟩ ?_
      refine w_s ?_
      refine w_m ?_
      refine w_v (v := .bool false) (x_not (b := true) rfl rfl) ?_
      refine w_e ?_
      refine g_cond_f rfl rfl ?_
      refine g_skip ?_
      refine g_then ?_
      refine w_s ?_
      refine w_r4 ?_
      refine l_of (w_st #[.slice P rs.length C, .int .i64 n, .bool und, .string nm, .int .i64 ev, .bool beg, .bool who, .bool dne, .bool stp, .int .i64 hol] H19 1 ?_)
      intro wq20 H21
      refine w_e ?_
      refine w_s ?_
      refine w_r3 ?_
      refine w_e ?_
      refine g_ret ?_
      refine g_then_ret ?_
      refine fin_ret [.tmp 4, .tmp 5] [.int .i64 n, .int .i64 0] rfl ⟨rfl, rfl, trivial⟩ ?_
      have hle : (RPS rs now und nm ev beg who dne stp hol).least = if (RPS rs now und nm ev beg who dne stp hol).find n ≠ none then 0 else -1 := by
       have := least_stp (til := hol) (n := n) (by omega) (flatT 0 (rs.map fun r => r.l)) (-1) (.inr rfl)
       unfold PS.least PS.find PS.ev RPS; rw [show evS beg (dne && !who) stp = 2 from by unfold evS; rw [hb4]; rfl]; exact this.trans (by congr 1; simp)
      rw [if_pos (by rw [hfx9]; simp)] at hle
      have hE : whenE (RPS rs now und nm ev beg who dne stp hol) n = 0 := by unfold whenE tellS; rw [show (RPS rs now und nm ev beg who dne stp hol).now = now from rfl, if_neg (by rw [if_neg (by omega)]; decide)]; rw [if_neg (by unfold RPS; rw [hb3]; simp)]; rw [if_neg (by omega)]
      exact ⟨P, C, rs, n, und, nm, ev, beg, who, dne, stp, hol, (by unfold whenA; rw [if_pos hE]; try rfl), (by unfold whenV; rw [if_pos hE, hE, show max (RPS rs now und nm ev beg who dne stp hol).least n = n from by omega]; rfl), H21.takes [1, 2, 3, 4] (by decide)⟩
     ·
      replace H12 : S wq11 [Ob g (.cells #[.slice P rs.length C, .int .i64 now, .bool und, .string nm, .int .i64 ev, .bool beg, .bool who, .bool dne, .bool stp, .int .i64 hol] 84 (0, 0)), Rw 85 1 P rs.length C (fl rowL rs), RowsI 87 5 tkL rs, Old w (fps [Ob g (.cells #[.slice P rs.length C, .int .i64 now, .bool und, .string nm, .int .i64 ev, .bool beg, .bool who, .bool dne, .bool stp, .int .i64 hol] 84 (0, 0)), Rw 85 1 P rs.length C (fl rowL rs), RowsI 87 5 tkL rs])] := by have h := H0.absorbI [0, 1, 2] H12; exact h
      refine b_ret rfl rfl ?_
      refine w_r3 ?_
      refine l_of (s_alloc H12 (wt0 rfl) rfl rfl rfl ze34 ?_)
      intro g22 wq23 H24
      refine l_of (w_st #[.int .i64 0, .int .i64 0, .int .i64 0, .int .i64 0] H24 0 ?_)
      intro wq25 H26
      refine w_a ?_
      refine w_e ?_
      refine g_weak [(0, .pointer (some ⟨g, 0, none⟩)), (1, .int .i64 n), (7, .bool false)] ⟨rfl, rfl, rfl, trivial⟩ ?_
      refine w_s ?_
      refine w_m ?_
      refine w_v (v := .bool true) (x_not (b := false) rfl rfl) ?_
      refine w_e ?_
      refine g_cond_t rfl rfl ?_
      refine w_s ?_
      refine w_r2 ?_
      refine w_e ?_
      refine g_ret ?_
      refine g_then_ret ?_
      refine g_then_ret ?_
      refine fin_ret [.tmp 4, .tmp 5] [.int .i64 0, .int .i64 8] rfl ⟨rfl, rfl, trivial⟩ ?_
      have hle : (RPS rs now und nm ev beg who dne stp hol).least = if (RPS rs now und nm ev beg who dne stp hol).find n ≠ none then 0 else -1 := by
       have := least_stp (til := hol) (n := n) (by omega) (flatT 0 (rs.map fun r => r.l)) (-1) (.inr rfl)
       unfold PS.least PS.find PS.ev RPS; rw [show evS beg (dne && !who) stp = 2 from by unfold evS; rw [hb4]; rfl]; exact this.trans (by congr 1; simp)
      rw [if_neg (by rw [hno10]; simp)] at hle
      have hE : whenE (RPS rs now und nm ev beg who dne stp hol) n = 8 := by unfold whenE tellS; rw [show (RPS rs now und nm ev beg who dne stp hol).now = now from rfl, if_neg (by rw [if_neg (by omega)]; decide)]; rw [if_neg (by unfold RPS; rw [hb3]; simp)]; rw [if_pos (by omega)]
      exact ⟨P, C, rs, now, und, nm, ev, beg, who, dne, stp, hol, (by unfold whenA; rw [if_neg (by rw [hE]; decide)]; try rfl), (by unfold whenV; rw [if_neg (by rw [hE]; decide), hE]; rfl), H26.takes [1, 2, 3, 4] (by decide)⟩
    ·
     have hst : stp = false := hb4
     refine g_cond_f rfl hb4 ?_
     refine g_skip ?_
     refine g_then ?_
     refine w_s ?_
     refine w_r2 ?_
     refine w_e ?_
     refine g_seq ?_
     refine w_s ?_
     refine w_m ?_
     refine l_of (s_call (wt0 rfl) (x_call' rfl rfl cl64) (due_r hrs hrl _ (H0.takes [0, 1, 2] (by decide))) ?_)
     rintro _ wq27 ⟨rfl, H28⟩
     replace H28 : S wq27 [Ob g (.cells #[.slice P rs.length C, .int .i64 now, .bool und, .string nm, .int .i64 ev, .bool beg, .bool who, .bool dne, .bool stp, .int .i64 hol] 84 (0, 0)), Rw 85 1 P rs.length C (fl rowL rs), RowsI 87 5 tkL rs, Old w (fps [Ob g (.cells #[.slice P rs.length C, .int .i64 now, .bool und, .string nm, .int .i64 ev, .bool beg, .bool who, .bool dne, .bool stp, .int .i64 hol] 84 (0, 0)), Rw 85 1 P rs.length C (fl rowL rs), RowsI 87 5 tkL rs])] := by have h := H0.absorbI [0, 1, 2] H28; exact h
     refine b_ret rfl rfl ?_
     refine w_b ?_
     refine w_e ?_
     refine g_weak [(0, .pointer (some ⟨g, 0, none⟩)), (1, .int .i64 n), (8, .int .i64 n), (51, .bool (decide (((evS beg (dne && !who) false) : Int) = 0)))] ⟨rfl, rfl, rfl, rfl, trivial⟩ ?_
     by_cases hb29 : ((evS beg (dne && !who) false) : Int) = 0
     ·
      refine g_cond_t rfl (decide_eq_true hb29) ?_
      refine g_region ?_
      refine w_r4 ?_
      refine w_1 H28 0 ?_
      refine w_v (v := .int .i64 (max n hol)) (x_max rfl rfl rfl) ?_
      refine w_a ?_
      refine w_e ?_
      refine w_s ?_
      refine w_a ?_
      refine w_e ?_
      refine g_seq ?_
      refine w_s ?_
      refine w_r3 ?_
      refine w_1 H28 0 ?_
      refine w_v (v := .int .i64 ((rs.length : Int))) (x_lenl rfl rfl Try.underlying82) ?_
      refine w_m ?_
      refine w_e ?_
      refine g_block ?_
      refine g_loop (ι := Nat × Int) (fun (i, out) => [(0, .pointer (some ⟨g, 0, none⟩)), (1, .int .i64 n), (8, .int .i64 (max n hol)), (9, .int .i64 out), (61, .slice P rs.length C), (62, .int .i64 ((rs.length : Int))), (63, .int .i64 ((i : Int)))]) (fun (i, out) wx => (i ≤ rs.length) ∧ (WInv (evS beg (dne && !who) stp) hol n (flatT 0 ((rs.map fun r => r.l).take i)) out) ∧ S wx [Ob g (.cells #[.slice P rs.length C, .int .i64 now, .bool und, .string nm, .int .i64 ev, .bool beg, .bool who, .bool dne, .bool stp, .int .i64 hol] 84 (0, 0)), Rw 85 1 P rs.length C (fl rowL rs), RowsI 87 5 tkL rs, Old w (fps [Ob g (.cells #[.slice P rs.length C, .int .i64 now, .bool und, .string nm, .int .i64 ev, .bool beg, .bool who, .bool dne, .bool stp, .int .i64 hol] 84 (0, 0)), Rw 85 1 P rs.length C (fl rowL rs), RowsI 87 5 tkL rs])]) (fun (i, out) => rs.length - i) (0, (-1)) ⟨rfl, rfl, rfl, rfl, rfl, rfl, rfl, trivial⟩ ⟨Nat.zero_le _, (WInv.nil _ _ _), (H28.takes [0, 1, 2, 3] (by decide))⟩ ?_
      rintro ⟨i, out⟩ wq30 ⟨hi, hW, H31⟩
      refine g_weak [(0, .pointer (some ⟨g, 0, none⟩)), (1, .int .i64 n), (8, .int .i64 (max n hol)), (9, .int .i64 out), (61, .slice P rs.length C), (62, .int .i64 ((rs.length : Int))), (63, .int .i64 ((i : Int)))] ⟨rfl, rfl, rfl, rfl, rfl, rfl, rfl, trivial⟩ ?_
      refine w_s ?_
      refine w_b ?_
      refine w_e ?_
      refine g_seq ?_
      by_cases hb32 : ((i : Int) : Int) < (rs.length : Int)
      ·
       refine g_cond_t rfl (decide_eq_true hb32) ?_
       refine g_skip ?_
       refine g_then ?_
       refine g_seq ?_
       refine g_block ?_
       refine w_s ?_
       refine w_v (v := .pointer ((P).map fun q => q.add (i * 1))) (x_idxR i (H31.rwReads (k := 1) rfl) rfl rfl rfl Try.underlying82 sz85 (by omega)) ?_
       have hlq := (H31.rwReads (k := 1) rfl).lenL rowE
       obtain ⟨x33, hx33⟩ := ex_at (l := rs) (j := i) (by omega)
       clear hlq
       have hrlx33 := hrl x33 (List.mem_of_getElem? hx33)
       have hTx33 := map_at hx33
       refine w_v (v := .slice x33.p x33.l.length x33.c) (x_loadR1 i (H31.rwReads (k := 1) rfl) (by omega) rfl rfl Try.underlying85 rfl (rowE.flAt1 hx33 rfl)) ?_
       refine w_a ?_
       refine w_e ?_
       refine w_s ?_
       refine w_m ?_
       refine w_v (v := .int .i64 ((x33.l.length : Int))) (x_lenl rfl rfl Try.underlying85) ?_
       refine w_m ?_
       refine w_e ?_
       refine g_block ?_
       refine g_loop (ι := Nat × Int) (fun (k, ou2) => [(0, .pointer (some ⟨g, 0, none⟩)), (1, .int .i64 n), (8, .int .i64 (max n hol)), (9, .int .i64 ou2), (61, .slice P rs.length C), (62, .int .i64 ((rs.length : Int))), (63, .int .i64 ((i : Int))), (67, .slice x33.p x33.l.length x33.c), (68, .int .i64 ((x33.l.length : Int))), (69, .int .i64 ((k : Int)))]) (fun (k, ou2) wx => (k ≤ x33.l.length) ∧ (WInv (evS beg (dne && !who) stp) hol n (uptoT (rs.map fun r => r.l) i x33.l k) ou2) ∧ S wx [Ob g (.cells #[.slice P rs.length C, .int .i64 now, .bool und, .string nm, .int .i64 ev, .bool beg, .bool who, .bool dne, .bool stp, .int .i64 hol] 84 (0, 0)), Rw 85 1 P rs.length C (fl rowL rs), RowsI 87 5 tkL rs, Old w (fps [Ob g (.cells #[.slice P rs.length C, .int .i64 now, .bool und, .string nm, .int .i64 ev, .bool beg, .bool who, .bool dne, .bool stp, .int .i64 hol] 84 (0, 0)), Rw 85 1 P rs.length C (fl rowL rs), RowsI 87 5 tkL rs])]) (fun (k, ou2) => x33.l.length - k) (0, out) ⟨rfl, rfl, rfl, rfl, rfl, rfl, rfl, rfl, rfl, rfl, trivial⟩ ⟨Nat.zero_le _, (by rw [uptoT_zero]; exact hW), (H31.takes [0, 1, 2, 3] (by decide))⟩ ?_
       rintro ⟨k, ou2⟩ wq34 ⟨hk, hV, H35⟩
       refine g_weak [(0, .pointer (some ⟨g, 0, none⟩)), (1, .int .i64 n), (8, .int .i64 (max n hol)), (9, .int .i64 ou2), (61, .slice P rs.length C), (62, .int .i64 ((rs.length : Int))), (63, .int .i64 ((i : Int))), (67, .slice x33.p x33.l.length x33.c), (68, .int .i64 ((x33.l.length : Int))), (69, .int .i64 ((k : Int)))] ⟨rfl, rfl, rfl, rfl, rfl, rfl, rfl, rfl, rfl, rfl, trivial⟩ ?_
       refine w_s ?_
       refine w_b ?_
       refine w_e ?_
       refine g_seq ?_
       by_cases hb36 : ((k : Int) : Int) < (x33.l.length : Int)
       ·
        refine g_cond_t rfl (decide_eq_true hb36) ?_
        refine g_skip ?_
        refine g_then ?_
        refine g_seq ?_
        refine g_block ?_
        refine w_s ?_
        refine w_v (v := .pointer ((x33.p).map fun q => q.add (k * 5))) (x_idxR k ((rows_in (H35.at (k := 2) rfl) (.inl (List.mem_of_getElem? hx33)))) rfl rfl rfl Try.underlying85 sz87 (by omega)) ?_
        have hlq := ((rows_in (H35.at (k := 2) rfl) (.inl (List.mem_of_getElem? hx33)))).lenL tkE
        obtain ⟨x37, hx37⟩ := ex_at (l := x33.l) (j := k) (by omega)
        clear hlq
        have hax := hab.2 x33 (List.mem_of_getElem? hx33) x37 (List.mem_of_getElem? hx37)
        refine w_v (v := .agg #[.string (x37.name), .int .i64 (x37.failed), .int .i64 (x37.after), .bool x37.ans, .bool x37.told]) (x_loadRA (vs := tkL x37) k ((rows_in (H35.at (k := 2) rfl) (.inl (List.mem_of_getElem? hx33)))) (by omega) rfl rfl Try.underlying87 rfl sz87 (by rfl) (tkE.flAt hx37)) ?_
        refine l_of (s_alloc H35 (wt0 rfl) rfl rfl rfl ze87 ?_)
        intro g38 wq39 H40
        refine l_of (w_st #[.string (x37.name), .int .i64 (x37.failed), .int .i64 (x37.after), .bool x37.ans, .bool x37.told] H40 0 ?_)
        intro wq41 H42
        refine w_e ?_
        refine w_s ?_
        refine w_r2 ?_
        refine w_1 H42 0 ?_
        refine w_v (v := .int .i64 (max (max n hol) x37.after)) (x_max rfl rfl rfl) ?_
        refine w_a ?_
        refine w_e ?_
        refine w_s ?_
        refine w_m ?_
        refine w_b ?_
        refine w_m ?_
        by_cases hb43 : (ou2 : Int) < 0
        ·
         refine w_n (decide_eq_true hb43) ?_
         refine w_n (decide_eq_true hb43) ?_
         refine w_n (decide_eq_true hb43) ?_
         refine w_v (v := .bool true) (x_pick_t rfl rfl (decide_eq_true hb43) rfl) ?_
         refine w_e ?_
         refine g_weak [(0, .pointer (some ⟨g, 0, none⟩)), (1, .int .i64 n), (8, .int .i64 (max n hol)), (9, .int .i64 ou2), (14, .int .i64 (max (max n hol) x37.after)), (61, .slice P rs.length C), (62, .int .i64 ((rs.length : Int))), (63, .int .i64 ((i : Int))), (67, .slice x33.p x33.l.length x33.c), (68, .int .i64 ((x33.l.length : Int))), (69, .int .i64 ((k : Int))), (83, .bool true)] ⟨rfl, rfl, rfl, rfl, rfl, rfl, rfl, rfl, rfl, rfl, rfl, rfl, trivial⟩ ?_
         refine g_cond_t rfl rfl ?_
         refine g_region ?_
         refine w_r2 ?_
         refine g_nil ?_
         refine g_in ?_
         refine g_then ?_
         refine g_region ?_
         refine w_b (v := .int .i64 (((k + 1 : Nat) : Int))) (hb := (b_add (by rw [w64 (by omega)]; omega))) ?_
         refine w_m ?_
         refine w_e ?_
         refine g_round (i := (k, ou2)) ((k + 1), max (max n hol) x37.after) ?_ ?_ ?_
         · exact ⟨rfl, rfl, rfl, rfl, rfl, rfl, rfl, rfl, rfl, rfl, trivial⟩
         · exact ⟨by omega, (by rw [uptoT_next hx37]; exact WInv.yes (p := (i, k, x37)) hV (by omega) (free_on x37 hst) (by show 0 ≤ (freeS (evS beg (dne && !who) stp) hol x37).1; rw [free_off x37 hst]; split <;> omega) (by show max (max n hol) x37.after = max n (freeS (evS beg (dne && !who) stp) hol x37).1; rw [free_off x37 hst]; simp [hb1, hb2, hb3, hb4, hb29, hb32, hb36, hb43] <;> omega) (by omega)), (H42.takes [1, 2, 3, 4] (by decide))⟩
         · (try dsimp only); omega
        ·
         refine w_g (decide_eq_false hb43) xm ?_
         refine w_g (decide_eq_false hb43) xm ?_
         refine w_g (decide_eq_false hb43) (x_bin rfl rfl rfl b_lss) ?_
         refine w_v (v := .bool (decide ((max (max n hol) x37.after : Int) < ou2))) (x_pick_f rfl rfl (decide_eq_false hb43) rfl) ?_
         refine w_e ?_
         refine g_weak [(0, .pointer (some ⟨g, 0, none⟩)), (1, .int .i64 n), (8, .int .i64 (max n hol)), (9, .int .i64 ou2), (14, .int .i64 (max (max n hol) x37.after)), (61, .slice P rs.length C), (62, .int .i64 ((rs.length : Int))), (63, .int .i64 ((i : Int))), (67, .slice x33.p x33.l.length x33.c), (68, .int .i64 ((x33.l.length : Int))), (69, .int .i64 ((k : Int))), (83, .bool (decide ((max (max n hol) x37.after : Int) < ou2)))] ⟨rfl, rfl, rfl, rfl, rfl, rfl, rfl, rfl, rfl, rfl, rfl, rfl, trivial⟩ ?_
         by_cases hb44 : (max (max n hol) x37.after : Int) < ou2
         ·
          refine g_cond_t rfl (decide_eq_true hb44) ?_
          refine g_region ?_
          refine w_r2 ?_
          refine g_nil ?_
          refine g_in ?_
          refine g_then ?_
          refine g_region ?_
          refine w_b (v := .int .i64 (((k + 1 : Nat) : Int))) (hb := (b_add (by rw [w64 (by omega)]; omega))) ?_
          refine w_m ?_
          refine w_e ?_
          refine g_round (i := (k, ou2)) ((k + 1), max (max n hol) x37.after) ?_ ?_ ?_
          · exact ⟨rfl, rfl, rfl, rfl, rfl, rfl, rfl, rfl, rfl, rfl, trivial⟩
          · exact ⟨by omega, (by rw [uptoT_next hx37]; exact WInv.yes (p := (i, k, x37)) hV (by omega) (free_on x37 hst) (by show 0 ≤ (freeS (evS beg (dne && !who) stp) hol x37).1; rw [free_off x37 hst]; split <;> omega) (by show max (max n hol) x37.after = max n (freeS (evS beg (dne && !who) stp) hol x37).1; rw [free_off x37 hst]; simp [hb1, hb2, hb3, hb4, hb29, hb32, hb36, hb43, hb44] <;> omega) (by omega)), (H42.takes [1, 2, 3, 4] (by decide))⟩
          · (try dsimp only); omega
         ·
          refine g_cond_f rfl (decide_eq_false hb44) ?_
          refine g_skip ?_
          refine g_in ?_
          refine g_then ?_
          refine g_region ?_
          refine w_b (v := .int .i64 (((k + 1 : Nat) : Int))) (hb := (b_add (by rw [w64 (by omega)]; omega))) ?_
          refine w_m ?_
          refine w_e ?_
          refine g_round (i := (k, ou2)) ((k + 1), ou2) ?_ ?_ ?_
          · exact ⟨rfl, rfl, rfl, rfl, rfl, rfl, rfl, rfl, rfl, rfl, trivial⟩
          · exact ⟨by omega, (by rw [uptoT_next hx37]; exact WInv.no (p := (i, k, x37)) (W := max (max n hol) x37.after) hV (by omega) (free_on x37 hst) (by show 0 ≤ (freeS (evS beg (dne && !who) stp) hol x37).1; rw [free_off x37 hst]; split <;> omega) (by show max (max n hol) x37.after = max n (freeS (evS beg (dne && !who) stp) hol x37).1; rw [free_off x37 hst]; simp [hb1, hb2, hb3, hb4, hb29, hb32, hb36, hb43, hb44] <;> omega) (by omega) (by omega)), (H42.takes [1, 2, 3, 4] (by decide))⟩
          · (try dsimp only); omega
       ·
        refine g_cond_f rfl (decide_eq_false hb36) ?_
        refine g_exit ?_
        refine g_then_exit ?_
        refine g_then_exit ?_
        refine g_in_hit ?_
        refine g_in ?_
        refine g_then ?_
        refine g_region ?_
        refine w_b (v := .int .i64 (((i + 1 : Nat) : Int))) (hb := (b_add (by rw [w64 (by omega)]; omega))) ?_
        refine w_m ?_
        refine w_e ?_
        refine g_round (i := (i, out)) ((i + 1), ou2) ?_ ?_ ?_
        · exact ⟨rfl, rfl, rfl, rfl, rfl, rfl, rfl, trivial⟩
        · exact ⟨by omega, (by rw [uptoT_row hTx33, show x33.l.length = k from by omega]; exact hV), (H35.takes [0, 1, 2, 3] (by decide))⟩
        · (try dsimp only); omega
      ·
       refine g_cond_f rfl (decide_eq_false hb32) ?_
       refine g_exit ?_
       refine g_then_exit ?_
       refine g_then_exit ?_
       refine g_in_hit ?_
       refine g_then ?_
       refine g_seq ?_
       refine w_s ?_
       refine w_m ?_
       refine w_b ?_
       refine w_e ?_
       by_cases hb45 : (1000000000 : Int) < out
       ·
        refine g_cond_t rfl (decide_eq_true hb45) ?_
        refine w_s ?_
        refine w_r2 ?_
        refine w_e ?_
        refine g_ret ?_
        refine g_then_ret ?_
        refine fin_ret [.tmp 4, .tmp 5] [.int .i64 0, .int .i64 8] rfl ⟨rfl, rfl, trivial⟩ ?_
        rw [List.take_of_length_le (by rw [List.length_map]; omega)] at hW
        have hfp : ∀ p ∈ flatT 0 (rs.map fun r => r.l), (freeS (evS beg (dne && !who) stp) hol p.2.2).2 = true ∧ 0 ≤ (freeS (evS beg (dne && !who) stp) hol p.2.2).1 := fun p hp => by
         obtain ⟨_, r9, hr9, hx9⟩ := mem_flatT.1 hp
         rw [List.getElem?_map] at hr9
         obtain ⟨q9, hq9, rfl⟩ := Option.map_eq_some_iff.1 hr9
         have hax := hab.2 q9 (List.mem_of_getElem? hq9) _ (List.mem_of_getElem? hx9)
         refine ⟨free_on _ hst, ?_⟩
         rw [free_off _ hst]; split <;> omega
        have hl0 : 0 ≤ (RPS rs now und nm ev beg who dne stp hol).least := hW.some hne hfp
        have hlo : out = max (RPS rs now und nm ev beg who dne stp hol).least n := hW.pos hl0
        have hE : whenE (RPS rs now und nm ev beg who dne stp hol) n = 8 := by unfold whenE tellS; rw [show (RPS rs now und nm ev beg who dne stp hol).now = now from rfl, if_neg (by rw [if_neg (by omega)]; decide)]; rw [if_neg (by unfold RPS; rw [hb3]; simp)]; rw [if_pos (by omega)]
        exact ⟨P, C, rs, now, und, nm, ev, beg, who, dne, stp, hol, (by unfold whenA; rw [if_neg (by rw [hE]; decide)]; try rfl), (by unfold whenV; rw [if_neg (by rw [hE]; decide), hE]; rfl), H31.takes [0, 1, 2, 3] (by decide)⟩
       ·
        refine g_cond_f rfl (decide_eq_false hb45) ?_
        refine g_skip ?_
        refine g_then ?_
        refine w_s ?_
        refine w_r4 ?_
        refine l_of (w_st #[.slice P rs.length C, .int .i64 n, .bool und, .string nm, .int .i64 ev, .bool beg, .bool who, .bool dne, .bool stp, .int .i64 hol] H31 0 ?_)
        intro wq46 H47
        refine w_e ?_
        refine g_weak [(9, .int .i64 out)] ⟨rfl, trivial⟩ ?_
        refine w_s ?_
        refine w_r3 ?_
        refine w_e ?_
        refine g_ret ?_
        refine fin_ret [.tmp 4, .tmp 5] [.int .i64 out, .int .i64 0] rfl ⟨rfl, rfl, trivial⟩ ?_
        rw [List.take_of_length_le (by rw [List.length_map]; omega)] at hW
        have hfp : ∀ p ∈ flatT 0 (rs.map fun r => r.l), (freeS (evS beg (dne && !who) stp) hol p.2.2).2 = true ∧ 0 ≤ (freeS (evS beg (dne && !who) stp) hol p.2.2).1 := fun p hp => by
         obtain ⟨_, r9, hr9, hx9⟩ := mem_flatT.1 hp
         rw [List.getElem?_map] at hr9
         obtain ⟨q9, hq9, rfl⟩ := Option.map_eq_some_iff.1 hr9
         have hax := hab.2 q9 (List.mem_of_getElem? hq9) _ (List.mem_of_getElem? hx9)
         refine ⟨free_on _ hst, ?_⟩
         rw [free_off _ hst]; split <;> omega
        have hl0 : 0 ≤ (RPS rs now und nm ev beg who dne stp hol).least := hW.some hne hfp
        have hlo : out = max (RPS rs now und nm ev beg who dne stp hol).least n := hW.pos hl0
        have hE : whenE (RPS rs now und nm ev beg who dne stp hol) n = 0 := by unfold whenE tellS; rw [show (RPS rs now und nm ev beg who dne stp hol).now = now from rfl, if_neg (by rw [if_neg (by omega)]; decide)]; rw [if_neg (by unfold RPS; rw [hb3]; simp)]; rw [if_neg (by omega)]
        exact ⟨P, C, rs, n, und, nm, ev, beg, who, dne, stp, hol, (by unfold whenA; rw [if_pos hE]; try rfl), (by unfold whenV; rw [if_pos hE, hE, show max (RPS rs now und nm ev beg who dne stp hol).least n = out from by omega]; rfl), H47.takes [0, 1, 2, 3] (by decide)⟩
     ·
      refine g_cond_f rfl (decide_eq_false hb29) ?_
      refine g_skip ?_
      refine g_then ?_
      refine w_s ?_
      refine w_a ?_
      refine w_e ?_
      refine g_seq ?_
      refine w_s ?_
      refine w_r3 ?_
      refine w_1 H28 0 ?_
      refine w_v (v := .int .i64 ((rs.length : Int))) (x_lenl rfl rfl Try.underlying82) ?_
      refine w_m ?_
      refine w_e ?_
      refine g_block ?_
      refine g_loop (ι := Nat × Int) (fun (i, out) => [(0, .pointer (some ⟨g, 0, none⟩)), (1, .int .i64 n), (8, .int .i64 n), (9, .int .i64 out), (61, .slice P rs.length C), (62, .int .i64 ((rs.length : Int))), (63, .int .i64 ((i : Int)))]) (fun (i, out) wx => (i ≤ rs.length) ∧ (WInv (evS beg (dne && !who) stp) hol n (flatT 0 ((rs.map fun r => r.l).take i)) out) ∧ S wx [Ob g (.cells #[.slice P rs.length C, .int .i64 now, .bool und, .string nm, .int .i64 ev, .bool beg, .bool who, .bool dne, .bool stp, .int .i64 hol] 84 (0, 0)), Rw 85 1 P rs.length C (fl rowL rs), RowsI 87 5 tkL rs, Old w (fps [Ob g (.cells #[.slice P rs.length C, .int .i64 now, .bool und, .string nm, .int .i64 ev, .bool beg, .bool who, .bool dne, .bool stp, .int .i64 hol] 84 (0, 0)), Rw 85 1 P rs.length C (fl rowL rs), RowsI 87 5 tkL rs])]) (fun (i, out) => rs.length - i) (0, (-1)) ⟨rfl, rfl, rfl, rfl, rfl, rfl, rfl, trivial⟩ ⟨Nat.zero_le _, (WInv.nil _ _ _), (H28.takes [0, 1, 2, 3] (by decide))⟩ ?_
      rintro ⟨i, out⟩ wq48 ⟨hi, hW, H49⟩
      refine g_weak [(0, .pointer (some ⟨g, 0, none⟩)), (1, .int .i64 n), (8, .int .i64 n), (9, .int .i64 out), (61, .slice P rs.length C), (62, .int .i64 ((rs.length : Int))), (63, .int .i64 ((i : Int)))] ⟨rfl, rfl, rfl, rfl, rfl, rfl, rfl, trivial⟩ ?_
      refine w_s ?_
      refine w_b ?_
      refine w_e ?_
      refine g_seq ?_
      by_cases hb50 : ((i : Int) : Int) < (rs.length : Int)
      ·
       refine g_cond_t rfl (decide_eq_true hb50) ?_
       refine g_skip ?_
       refine g_then ?_
       refine g_seq ?_
       refine g_block ?_
       refine w_s ?_
       refine w_v (v := .pointer ((P).map fun q => q.add (i * 1))) (x_idxR i (H49.rwReads (k := 1) rfl) rfl rfl rfl Try.underlying82 sz85 (by omega)) ?_
       have hlq := (H49.rwReads (k := 1) rfl).lenL rowE
       obtain ⟨x51, hx51⟩ := ex_at (l := rs) (j := i) (by omega)
       clear hlq
       have hrlx51 := hrl x51 (List.mem_of_getElem? hx51)
       have hTx51 := map_at hx51
       refine w_v (v := .slice x51.p x51.l.length x51.c) (x_loadR1 i (H49.rwReads (k := 1) rfl) (by omega) rfl rfl Try.underlying85 rfl (rowE.flAt1 hx51 rfl)) ?_
       refine w_a ?_
       refine w_e ?_
       refine w_s ?_
       refine w_m ?_
       refine w_v (v := .int .i64 ((x51.l.length : Int))) (x_lenl rfl rfl Try.underlying85) ?_
       refine w_m ?_
       refine w_e ?_
       refine g_block ?_
       refine g_loop (ι := Nat × Int) (fun (k, ou2) => [(0, .pointer (some ⟨g, 0, none⟩)), (1, .int .i64 n), (8, .int .i64 n), (9, .int .i64 ou2), (61, .slice P rs.length C), (62, .int .i64 ((rs.length : Int))), (63, .int .i64 ((i : Int))), (67, .slice x51.p x51.l.length x51.c), (68, .int .i64 ((x51.l.length : Int))), (69, .int .i64 ((k : Int)))]) (fun (k, ou2) wx => (k ≤ x51.l.length) ∧ (WInv (evS beg (dne && !who) stp) hol n (uptoT (rs.map fun r => r.l) i x51.l k) ou2) ∧ S wx [Ob g (.cells #[.slice P rs.length C, .int .i64 now, .bool und, .string nm, .int .i64 ev, .bool beg, .bool who, .bool dne, .bool stp, .int .i64 hol] 84 (0, 0)), Rw 85 1 P rs.length C (fl rowL rs), RowsI 87 5 tkL rs, Old w (fps [Ob g (.cells #[.slice P rs.length C, .int .i64 now, .bool und, .string nm, .int .i64 ev, .bool beg, .bool who, .bool dne, .bool stp, .int .i64 hol] 84 (0, 0)), Rw 85 1 P rs.length C (fl rowL rs), RowsI 87 5 tkL rs])]) (fun (k, ou2) => x51.l.length - k) (0, out) ⟨rfl, rfl, rfl, rfl, rfl, rfl, rfl, rfl, rfl, rfl, trivial⟩ ⟨Nat.zero_le _, (by rw [uptoT_zero]; exact hW), (H49.takes [0, 1, 2, 3] (by decide))⟩ ?_
       rintro ⟨k, ou2⟩ wq52 ⟨hk, hV, H53⟩
       refine g_weak [(0, .pointer (some ⟨g, 0, none⟩)), (1, .int .i64 n), (8, .int .i64 n), (9, .int .i64 ou2), (61, .slice P rs.length C), (62, .int .i64 ((rs.length : Int))), (63, .int .i64 ((i : Int))), (67, .slice x51.p x51.l.length x51.c), (68, .int .i64 ((x51.l.length : Int))), (69, .int .i64 ((k : Int)))] ⟨rfl, rfl, rfl, rfl, rfl, rfl, rfl, rfl, rfl, rfl, trivial⟩ ?_
       refine w_s ?_
       refine w_b ?_
       refine w_e ?_
       refine g_seq ?_
       by_cases hb54 : ((k : Int) : Int) < (x51.l.length : Int)
       ·
        refine g_cond_t rfl (decide_eq_true hb54) ?_
        refine g_skip ?_
        refine g_then ?_
        refine g_seq ?_
        refine g_block ?_
        refine w_s ?_
        refine w_v (v := .pointer ((x51.p).map fun q => q.add (k * 5))) (x_idxR k ((rows_in (H53.at (k := 2) rfl) (.inl (List.mem_of_getElem? hx51)))) rfl rfl rfl Try.underlying85 sz87 (by omega)) ?_
        have hlq := ((rows_in (H53.at (k := 2) rfl) (.inl (List.mem_of_getElem? hx51)))).lenL tkE
        obtain ⟨x55, hx55⟩ := ex_at (l := x51.l) (j := k) (by omega)
        clear hlq
        have hax := hab.2 x51 (List.mem_of_getElem? hx51) x55 (List.mem_of_getElem? hx55)
        refine w_v (v := .agg #[.string (x55.name), .int .i64 (x55.failed), .int .i64 (x55.after), .bool x55.ans, .bool x55.told]) (x_loadRA (vs := tkL x55) k ((rows_in (H53.at (k := 2) rfl) (.inl (List.mem_of_getElem? hx51)))) (by omega) rfl rfl Try.underlying87 rfl sz87 (by rfl) (tkE.flAt hx55)) ?_
        refine l_of (s_alloc H53 (wt0 rfl) rfl rfl rfl ze87 ?_)
        intro g56 wq57 H58
        refine l_of (w_st #[.string (x55.name), .int .i64 (x55.failed), .int .i64 (x55.after), .bool x55.ans, .bool x55.told] H58 0 ?_)
        intro wq59 H60
        refine w_e ?_
        refine w_s ?_
        refine w_r2 ?_
        refine w_1 H60 0 ?_
        refine w_v (v := .int .i64 (max n x55.after)) (x_max rfl rfl rfl) ?_
        refine w_a ?_
        refine w_e ?_
        refine w_s ?_
        refine w_m ?_
        refine w_b ?_
        refine w_m ?_
        by_cases hb61 : (ou2 : Int) < 0
        ·
         refine w_n (decide_eq_true hb61) ?_
         refine w_n (decide_eq_true hb61) ?_
         refine w_n (decide_eq_true hb61) ?_
         refine w_v (v := .bool true) (x_pick_t rfl rfl (decide_eq_true hb61) rfl) ?_
         refine w_e ?_
         refine g_weak [(0, .pointer (some ⟨g, 0, none⟩)), (1, .int .i64 n), (8, .int .i64 n), (9, .int .i64 ou2), (14, .int .i64 (max n x55.after)), (61, .slice P rs.length C), (62, .int .i64 ((rs.length : Int))), (63, .int .i64 ((i : Int))), (67, .slice x51.p x51.l.length x51.c), (68, .int .i64 ((x51.l.length : Int))), (69, .int .i64 ((k : Int))), (83, .bool true)] ⟨rfl, rfl, rfl, rfl, rfl, rfl, rfl, rfl, rfl, rfl, rfl, rfl, trivial⟩ ?_
         refine g_cond_t rfl rfl ?_
         refine g_region ?_
         refine w_r2 ?_
         refine g_nil ?_
         refine g_in ?_
         refine g_then ?_
         refine g_region ?_
         refine w_b (v := .int .i64 (((k + 1 : Nat) : Int))) (hb := (b_add (by rw [w64 (by omega)]; omega))) ?_
         refine w_m ?_
         refine w_e ?_
         refine g_round (i := (k, ou2)) ((k + 1), max n x55.after) ?_ ?_ ?_
         · exact ⟨rfl, rfl, rfl, rfl, rfl, rfl, rfl, rfl, rfl, rfl, trivial⟩
         · exact ⟨by omega, (by rw [uptoT_next hx55]; exact WInv.yes (p := (i, k, x55)) hV (by omega) (free_on x55 hst) (by show 0 ≤ (freeS (evS beg (dne && !who) stp) hol x55).1; rw [free_off x55 hst]; split <;> omega) (by show max n x55.after = max n (freeS (evS beg (dne && !who) stp) hol x55).1; rw [free_off x55 hst]; simp [hb1, hb2, hb3, hb4, hb29, hb50, hb54, hb61] <;> omega) (by omega)), (H60.takes [1, 2, 3, 4] (by decide))⟩
         · (try dsimp only); omega
        ·
         refine w_g (decide_eq_false hb61) xm ?_
         refine w_g (decide_eq_false hb61) xm ?_
         refine w_g (decide_eq_false hb61) (x_bin rfl rfl rfl b_lss) ?_
         refine w_v (v := .bool (decide ((max n x55.after : Int) < ou2))) (x_pick_f rfl rfl (decide_eq_false hb61) rfl) ?_
         refine w_e ?_
         refine g_weak [(0, .pointer (some ⟨g, 0, none⟩)), (1, .int .i64 n), (8, .int .i64 n), (9, .int .i64 ou2), (14, .int .i64 (max n x55.after)), (61, .slice P rs.length C), (62, .int .i64 ((rs.length : Int))), (63, .int .i64 ((i : Int))), (67, .slice x51.p x51.l.length x51.c), (68, .int .i64 ((x51.l.length : Int))), (69, .int .i64 ((k : Int))), (83, .bool (decide ((max n x55.after : Int) < ou2)))] ⟨rfl, rfl, rfl, rfl, rfl, rfl, rfl, rfl, rfl, rfl, rfl, rfl, trivial⟩ ?_
         by_cases hb62 : (max n x55.after : Int) < ou2
         ·
          refine g_cond_t rfl (decide_eq_true hb62) ?_
          refine g_region ?_
          refine w_r2 ?_
          refine g_nil ?_
          refine g_in ?_
          refine g_then ?_
          refine g_region ?_
          refine w_b (v := .int .i64 (((k + 1 : Nat) : Int))) (hb := (b_add (by rw [w64 (by omega)]; omega))) ?_
          refine w_m ?_
          refine w_e ?_
          refine g_round (i := (k, ou2)) ((k + 1), max n x55.after) ?_ ?_ ?_
          · exact ⟨rfl, rfl, rfl, rfl, rfl, rfl, rfl, rfl, rfl, rfl, trivial⟩
          · exact ⟨by omega, (by rw [uptoT_next hx55]; exact WInv.yes (p := (i, k, x55)) hV (by omega) (free_on x55 hst) (by show 0 ≤ (freeS (evS beg (dne && !who) stp) hol x55).1; rw [free_off x55 hst]; split <;> omega) (by show max n x55.after = max n (freeS (evS beg (dne && !who) stp) hol x55).1; rw [free_off x55 hst]; simp [hb1, hb2, hb3, hb4, hb29, hb50, hb54, hb61, hb62] <;> omega) (by omega)), (H60.takes [1, 2, 3, 4] (by decide))⟩
          · (try dsimp only); omega
         ·
          refine g_cond_f rfl (decide_eq_false hb62) ?_
          refine g_skip ?_
          refine g_in ?_
          refine g_then ?_
          refine g_region ?_
          refine w_b (v := .int .i64 (((k + 1 : Nat) : Int))) (hb := (b_add (by rw [w64 (by omega)]; omega))) ?_
          refine w_m ?_
          refine w_e ?_
          refine g_round (i := (k, ou2)) ((k + 1), ou2) ?_ ?_ ?_
          · exact ⟨rfl, rfl, rfl, rfl, rfl, rfl, rfl, rfl, rfl, rfl, trivial⟩
          · exact ⟨by omega, (by rw [uptoT_next hx55]; exact WInv.no (p := (i, k, x55)) (W := max n x55.after) hV (by omega) (free_on x55 hst) (by show 0 ≤ (freeS (evS beg (dne && !who) stp) hol x55).1; rw [free_off x55 hst]; split <;> omega) (by show max n x55.after = max n (freeS (evS beg (dne && !who) stp) hol x55).1; rw [free_off x55 hst]; simp [hb1, hb2, hb3, hb4, hb29, hb50, hb54, hb61, hb62] <;> omega) (by omega) (by omega)), (H60.takes [1, 2, 3, 4] (by decide))⟩
          · (try dsimp only); omega
       ·
        refine g_cond_f rfl (decide_eq_false hb54) ?_
        refine g_exit ?_
        refine g_then_exit ?_
        refine g_then_exit ?_
        refine g_in_hit ?_
        refine g_in ?_
        refine g_then ?_
        refine g_region ?_
        refine w_b (v := .int .i64 (((i + 1 : Nat) : Int))) (hb := (b_add (by rw [w64 (by omega)]; omega))) ?_
        refine w_m ?_
        refine w_e ?_
        refine g_round (i := (i, out)) ((i + 1), ou2) ?_ ?_ ?_
        · exact ⟨rfl, rfl, rfl, rfl, rfl, rfl, rfl, trivial⟩
        · exact ⟨by omega, (by rw [uptoT_row hTx51, show x51.l.length = k from by omega]; exact hV), (H53.takes [0, 1, 2, 3] (by decide))⟩
        · (try dsimp only); omega
      ·
       refine g_cond_f rfl (decide_eq_false hb50) ?_
       refine g_exit ?_
       refine g_then_exit ?_
       refine g_then_exit ?_
       refine g_in_hit ?_
       refine g_then ?_
       refine g_seq ?_
       refine w_s ?_
       refine w_m ?_
       refine w_b ?_
       refine w_e ?_
       by_cases hb63 : (1000000000 : Int) < out
       ·
        refine g_cond_t rfl (decide_eq_true hb63) ?_
        refine w_s ?_
        refine w_r2 ?_
        refine w_e ?_
        refine g_ret ?_
        refine g_then_ret ?_
        refine fin_ret [.tmp 4, .tmp 5] [.int .i64 0, .int .i64 8] rfl ⟨rfl, rfl, trivial⟩ ?_
        rw [List.take_of_length_le (by rw [List.length_map]; omega)] at hW
        have hfp : ∀ p ∈ flatT 0 (rs.map fun r => r.l), (freeS (evS beg (dne && !who) stp) hol p.2.2).2 = true ∧ 0 ≤ (freeS (evS beg (dne && !who) stp) hol p.2.2).1 := fun p hp => by
         obtain ⟨_, r9, hr9, hx9⟩ := mem_flatT.1 hp
         rw [List.getElem?_map] at hr9
         obtain ⟨q9, hq9, rfl⟩ := Option.map_eq_some_iff.1 hr9
         have hax := hab.2 q9 (List.mem_of_getElem? hq9) _ (List.mem_of_getElem? hx9)
         refine ⟨free_on _ hst, ?_⟩
         rw [free_off _ hst]; split <;> omega
        have hl0 : 0 ≤ (RPS rs now und nm ev beg who dne stp hol).least := hW.some hne hfp
        have hlo : out = max (RPS rs now und nm ev beg who dne stp hol).least n := hW.pos hl0
        have hE : whenE (RPS rs now und nm ev beg who dne stp hol) n = 8 := by unfold whenE tellS; rw [show (RPS rs now und nm ev beg who dne stp hol).now = now from rfl, if_neg (by rw [if_neg (by omega)]; decide)]; rw [if_neg (by unfold RPS; rw [hb3]; simp)]; rw [if_pos (by omega)]
        exact ⟨P, C, rs, now, und, nm, ev, beg, who, dne, stp, hol, (by unfold whenA; rw [if_neg (by rw [hE]; decide)]; try rfl), (by unfold whenV; rw [if_neg (by rw [hE]; decide), hE]; rfl), H49.takes [0, 1, 2, 3] (by decide)⟩
       ·
        refine g_cond_f rfl (decide_eq_false hb63) ?_
        refine g_skip ?_
        refine g_then ?_
        refine w_s ?_
        refine w_r4 ?_
        refine l_of (w_st #[.slice P rs.length C, .int .i64 n, .bool und, .string nm, .int .i64 ev, .bool beg, .bool who, .bool dne, .bool stp, .int .i64 hol] H49 0 ?_)
        intro wq64 H65
        refine w_e ?_
        refine g_weak [(9, .int .i64 out)] ⟨rfl, trivial⟩ ?_
        refine w_s ?_
        refine w_r3 ?_
        refine w_e ?_
        refine g_ret ?_
        refine fin_ret [.tmp 4, .tmp 5] [.int .i64 out, .int .i64 0] rfl ⟨rfl, rfl, trivial⟩ ?_
        rw [List.take_of_length_le (by rw [List.length_map]; omega)] at hW
        have hfp : ∀ p ∈ flatT 0 (rs.map fun r => r.l), (freeS (evS beg (dne && !who) stp) hol p.2.2).2 = true ∧ 0 ≤ (freeS (evS beg (dne && !who) stp) hol p.2.2).1 := fun p hp => by
         obtain ⟨_, r9, hr9, hx9⟩ := mem_flatT.1 hp
         rw [List.getElem?_map] at hr9
         obtain ⟨q9, hq9, rfl⟩ := Option.map_eq_some_iff.1 hr9
         have hax := hab.2 q9 (List.mem_of_getElem? hq9) _ (List.mem_of_getElem? hx9)
         refine ⟨free_on _ hst, ?_⟩
         rw [free_off _ hst]; split <;> omega
        have hl0 : 0 ≤ (RPS rs now und nm ev beg who dne stp hol).least := hW.some hne hfp
        have hlo : out = max (RPS rs now und nm ev beg who dne stp hol).least n := hW.pos hl0
        have hE : whenE (RPS rs now und nm ev beg who dne stp hol) n = 0 := by unfold whenE tellS; rw [show (RPS rs now und nm ev beg who dne stp hol).now = now from rfl, if_neg (by rw [if_neg (by omega)]; decide)]; rw [if_neg (by unfold RPS; rw [hb3]; simp)]; rw [if_neg (by omega)]
        exact ⟨P, C, rs, n, und, nm, ev, beg, who, dne, stp, hol, (by unfold whenA; rw [if_pos hE]; try rfl), (by unfold whenV; rw [if_pos hE, hE, show max (RPS rs now und nm ev beg who dne stp hol).least n = out from by omega]; rfl), H65.takes [0, 1, 2, 3] (by decide)⟩
end Go.Proofs.Ytibdlnjnomikjaa
