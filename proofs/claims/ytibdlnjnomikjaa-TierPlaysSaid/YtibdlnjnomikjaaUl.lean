import Derived.Test.YtibdlnjnomikjaaFk
import Derived.Test.YtibdlnjnomikjaaUk
set_option linter.unusedSimpArgs false
set_option linter.unusedVariables false
namespace Go.Proofs.Ytibdlnjnomikjaa
open Go.RowKit

theorem ptE : Enc 1 ptL := ⟨by decide, fun _ => rfl, fun _ => rfl⟩
theorem okT_of {s : ByteArray} (h : textS s = true) : okT s := by
  unfold textS at h; simp at h
  exact Nat.le_trans h.2 (by decide)
theorem S.ptNil {w : World} {L : List Item} {rs : Rws} (h : S w (RowsI 59 1 ptL rs :: L)) : S w (RowsI 59 1 ptL (rs ++ [(⟨none, 0, []⟩ : Ro Nat)]) :: L) :=
  S.rowsSnoc ((S.nilFl h 59 1 ptL).perm (.swap _ _ _))
theorem adr_set {rows : Rws} {m : Nat} {r : Ro Nat} (h : rows[m]? = some r) {x c : Nat} {p : Option Addr} : (x :: adr rows).Perm (adr (rows.set m ⟨p, c, r.l ++ [x]⟩)) := by
  obtain ⟨hm, e⟩ := List.getElem?_eq_some_iff.1 h
  have e1 : rows.set m ⟨p, c, r.l ++ [x]⟩ = rows.take m ++ (⟨p, c, r.l ++ [x]⟩ : Ro Nat) :: rows.drop (m + 1) := by rw [List.set_eq_take_append_cons_drop, if_pos hm]
  have e2 : rows = rows.take m ++ r :: rows.drop (m + 1) := by
    conv => lhs; rw [← List.take_append_drop m rows, List.drop_eq_getElem_cons hm, e]
  unfold adr lsOf
  rw [e1]
  conv => lhs; rw [e2]
  simp only [List.map_append, List.map_cons, List.flatten_append, List.flatten_cons, List.append_assoc]
  have h3 := List.perm_middle (a := x) (l₁ := (List.map (fun y : Ro Nat => y.l) (rows.take m)).flatten ++ r.l) (l₂ := (List.map (fun y : Ro Nat => y.l) (rows.drop (m + 1))).flatten)
  simpa using h3.symm
theorem set_last {rows : Rws} {m : Nat} (h : m = rows.length) (q r : Ro Nat) : (rows ++ [q]).set m r = rows ++ [r] := by subst h; simp
theorem adr_nil (rows : Rws) : adr (rows ++ [(⟨none, 0, []⟩ : Ro Nat)]) = adr rows := by unfold adr lsOf; simp
set_option maxRecDepth 20000 in
set_option maxHeartbeats 4000000 in
theorem failed_s {g mg C : Nat} {P : Option Addr} {cu : Value} {ev now til : Int} {begun whole dn stopped : Bool} {rows : Rws} {tk : Nat → Tk} {M : ByteArray → Option Nat} {s : ByteArray} (hmap : ∀ s x, M s = some x → x ∈ adr rows ∧ (tk x).name = s)  (w : World) (HS : S w [Ob g (.cells #[cu, .int .i64 ev, .slice P rows.length C, .map (some mg), .int .i64 now, .int .i64 til, .bool begun, .bool whole, .bool dn, .bool stopped] 64 (0, 0)), Fam 71 Tk.cells (adr rows) tk, Mp Value.string (fun x : Nat => Value.pointer (some ⟨x, 0, none⟩)) okT mg M]) : Calls Try.prog 51 #[.pointer (some ⟨g, 0, none⟩), .string s] w fun e w' => e = .returned (.tuple #[.int .i64 (if textS s = false then 0 else match M s with | none => 0 | some x => (tk x).failed), .int .i64 (if textS s = false then 1 else match M s with | none => 5 | some _ => 0)]) ∧ S w' ([Ob g (.cells #[cu, .int .i64 ev, .slice P rows.length C, .map (some mg), .int .i64 now, .int .i64 til, .bool begun, .bool whole, .bool dn, .bool stopped] 64 (0, 0)), Fam 71 Tk.cells (adr rows) tk, Mp Value.string (fun x : Nat => Value.pointer (some ⟨x, 0, none⟩)) okT mg M] ++ [Old w (fps [Ob g (.cells #[cu, .int .i64 ev, .slice P rows.length C, .map (some mg), .int .i64 now, .int .i64 til, .bool begun, .bool whole, .bool dn, .bool stopped] 64 (0, 0)), Fam 71 Tk.cells (adr rows) tk, Mp Value.string (fun x : Nat => Value.pointer (some ⟨x, 0, none⟩)) okT mg M])]) := by
 have H0 := HS.beginI
 refine enter 31 Try.func51 rfl rfl rfl ?_
 refine g_weak [(0, .pointer (some ⟨g, 0, none⟩)), (1, .string s)] ⟨rfl, rfl, trivial⟩ ?_
 refine w_s ?_
 refine w_r2 ?_
 refine w_e ?_
 refine g_seq ?_
 refine g_block ?_
 refine w_s ?_
 refine w_m ?_
 refine w_b (v := .bool false) (hb := (b_eqN (r := false) Try.underlying26 rfl)) ?_
 refine w_m ?_
 refine w_g rfl xm ?_
 refine l_of (s_call0 H0 (wt1 rfl rfl rfl rfl rfl) (x_call' rfl rfl cl30) (text_s s _) rfl rfl ?_)
 intro wq1 H2
 refine w_g (v := .bool (!((textS s)))) rfl (x_not (b := (textS s)) rfl rfl) ?_
 refine w_v (v := .bool (!((textS s)))) (x_pick_f rfl rfl rfl rfl) ?_
 refine w_a ?_
 refine w_e ?_
 rcases Bool.eq_false_or_eq_true ((textS s)) with hb3 | hb3
 ·
  have hok_s := okT_of hb3
  refine g_cond_f rfl (neg_of hb3) ?_
  refine w_s ?_
  refine w_r3 ?_
  refine w_1 H2 0 ?_
  refine w_m ?_
  rcases hM : M s with _ | xo
  ·
   refine w_v (v := .pointer none) (ex_cast (x_lookup1 (x := s) (strTy Try.underlying58 Try.underlying9) H2 2 rfl rfl rfl rfl hok_s ze59) (by rw [hM]; rfl)) ?_
   refine w_b (v := .bool true) (hb := (b_eqN (r := true) Try.underlying59 rfl)) ?_
   refine w_a ?_
   refine w_e ?_
   refine g_weak [(0, .pointer (some ⟨g, 0, none⟩)), (1, .string s), (14, .bool true)] ⟨rfl, rfl, rfl, trivial⟩ ?_
   refine g_cond_t rfl rfl ?_
   refine w_s ?_
   refine w_r2 ?_
   refine w_e ?_
   refine g_ret ?_
   refine g_in_ret ?_
   refine g_then_ret ?_
   refine fin_ret [.tmp 4, .tmp 5] [.int .i64 0, .int .i64 5] rfl ⟨rfl, rfl, trivial⟩ ?_
   exact ⟨by rw [if_neg (by rw [hb3]; decide), if_neg (by rw [hb3]; decide)]; rfl, H2.takes [0, 1, 2, 3] (by decide)⟩
  ·
   refine w_v (v := .pointer (some ⟨xo, 0, none⟩)) (ex_cast (x_lookup1 (x := s) (strTy Try.underlying58 Try.underlying9) H2 2 rfl rfl rfl rfl hok_s ze59) (by rw [hM]; rfl)) ?_
   refine w_b (v := .bool false) (hb := (b_eqN (r := false) Try.underlying59 rfl)) ?_
   refine w_a ?_
   refine w_e ?_
   refine g_weak [(0, .pointer (some ⟨g, 0, none⟩)), (1, .string s), (14, .bool false)] ⟨rfl, rfl, rfl, trivial⟩ ?_
   refine g_cond_f rfl rfl ?_
   refine g_skip ?_
   refine g_in ?_
   refine g_then ?_
   refine w_s ?_
   refine w_r3 ?_
   refine w_1 H2 0 ?_
   refine w_m ?_
   refine w_v (v := .pointer (some ⟨xo, 0, none⟩)) (ex_cast (x_lookup1 (x := s) (strTy Try.underlying58 Try.underlying9) H2 2 rfl rfl rfl rfl hok_s ze59) (by rw [hM]; rfl)) ?_
   refine w_r2 ?_
   refine w_v (v := .int .i64 ((tk xo).failed)) (x_loadC rfl rfl Try.underlying3 rfl (H2.famCell (k := 1) rfl (hmap s xo hM).1 rfl)) ?_
   refine w_r2 ?_
   refine w_e ?_
   refine g_weak [(4, .int .i64 ((tk xo).failed)), (5, .int .i64 0)] ⟨rfl, rfl, trivial⟩ ?_
   refine g_ret ?_
   refine fin_ret [.tmp 4, .tmp 5] [.int .i64 ((tk xo).failed), .int .i64 0] rfl ⟨rfl, rfl, trivial⟩ ?_
   exact ⟨by rw [if_neg (by rw [hb3]; decide), if_neg (by rw [hb3]; decide)]; rfl, H2.takes [0, 1, 2, 3] (by decide)⟩
 ·
  refine g_cond_t rfl (neg_of hb3) ?_
  refine w_s ?_
  refine w_r2 ?_
  refine w_e ?_
  refine g_ret ?_
  refine g_in_ret ?_
  refine g_then_ret ?_
  refine fin_ret [.tmp 4, .tmp 5] [.int .i64 0, .int .i64 1] rfl ⟨rfl, rfl, trivial⟩ ?_
  exact ⟨by rw [if_pos hb3, if_pos hb3]; rfl, H2.takes [0, 1, 2, 3] (by decide)⟩
set_option maxRecDepth 20000 in
set_option maxHeartbeats 4000000 in
theorem add_k {g mg C : Nat} {P : Option Addr} {cu : Value} {ev now til : Int} {begun whole dn stopped : Bool} {rows : Rws} {tk : Nat → Tk} {M : ByteArray → Option Nat} {s : ByteArray} {m : Nat} (hm : m ≤ rows.length) (hrs : rows.length ≤ 20) (hrl : ∀ r ∈ rows, r.l.length ≤ 20)  (w : World) (HS : S w [Ob g (.cells #[cu, .int .i64 ev, .slice P rows.length C, .map (some mg), .int .i64 now, .int .i64 til, .bool begun, .bool whole, .bool dn, .bool stopped] 64 (0, 0)), Rw 68 1 P rows.length C (fl rowL rows), RowsI 59 1 ptL rows, Fam 71 Tk.cells (adr rows) tk, Mp Value.string (fun x : Nat => Value.pointer (some ⟨x, 0, none⟩)) okT mg M]) : Calls Try.prog 45 #[.pointer (some ⟨g, 0, none⟩), .int .i64 ((m : Int)), .string s] w fun e w' => (textS s = false ∧ e = .returned (.int .i64 1) ∧ S w' ([Ob g (.cells #[cu, .int .i64 ev, .slice P rows.length C, .map (some mg), .int .i64 now, .int .i64 til, .bool begun, .bool whole, .bool dn, .bool stopped] 64 (0, 0)), Rw 68 1 P rows.length C (fl rowL rows), RowsI 59 1 ptL rows, Fam 71 Tk.cells (adr rows) tk, Mp Value.string (fun x : Nat => Value.pointer (some ⟨x, 0, none⟩)) okT mg M] ++ [Old w (fps [Ob g (.cells #[cu, .int .i64 ev, .slice P rows.length C, .map (some mg), .int .i64 now, .int .i64 til, .bool begun, .bool whole, .bool dn, .bool stopped] 64 (0, 0)), Rw 68 1 P rows.length C (fl rowL rows), RowsI 59 1 ptL rows, Fam 71 Tk.cells (adr rows) tk, Mp Value.string (fun x : Nat => Value.pointer (some ⟨x, 0, none⟩)) okT mg M])])) ∨ (textS s = true ∧ (∃ x, M s = some x) ∧ e = .returned (.int .i64 6) ∧ S w' ([Ob g (.cells #[cu, .int .i64 ev, .slice P rows.length C, .map (some mg), .int .i64 now, .int .i64 til, .bool begun, .bool whole, .bool dn, .bool stopped] 64 (0, 0)), Rw 68 1 P rows.length C (fl rowL rows), RowsI 59 1 ptL rows, Fam 71 Tk.cells (adr rows) tk, Mp Value.string (fun x : Nat => Value.pointer (some ⟨x, 0, none⟩)) okT mg M] ++ [Old w (fps [Ob g (.cells #[cu, .int .i64 ev, .slice P rows.length C, .map (some mg), .int .i64 now, .int .i64 til, .bool begun, .bool whole, .bool dn, .bool stopped] 64 (0, 0)), Rw 68 1 P rows.length C (fl rowL rows), RowsI 59 1 ptL rows, Fam 71 Tk.cells (adr rows) tk, Mp Value.string (fun x : Nat => Value.pointer (some ⟨x, 0, none⟩)) okT mg M])])) ∨ (textS s = true ∧ M s = none ∧ (m = 20 ∨ ∃ r, rows[m]? = some r ∧ r.l.length = 20) ∧ e = .returned (.int .i64 4) ∧ S w' ([Ob g (.cells #[cu, .int .i64 ev, .slice P rows.length C, .map (some mg), .int .i64 now, .int .i64 til, .bool begun, .bool whole, .bool dn, .bool stopped] 64 (0, 0)), Rw 68 1 P rows.length C (fl rowL rows), RowsI 59 1 ptL rows, Fam 71 Tk.cells (adr rows) tk, Mp Value.string (fun x : Nat => Value.pointer (some ⟨x, 0, none⟩)) okT mg M] ++ [Old w (fps [Ob g (.cells #[cu, .int .i64 ev, .slice P rows.length C, .map (some mg), .int .i64 now, .int .i64 til, .bool begun, .bool whole, .bool dn, .bool stopped] 64 (0, 0)), Rw 68 1 P rows.length C (fl rowL rows), RowsI 59 1 ptL rows, Fam 71 Tk.cells (adr rows) tk, Mp Value.string (fun x : Nat => Value.pointer (some ⟨x, 0, none⟩)) okT mg M])])) ∨ (textS s = true ∧ M s = none ∧ m ≠ 20 ∧ ∃ (gx : Nat) (P' : Option Addr) (C' : Nat) (rows' : Rws), gx ∉ adr rows ∧ ((m = rows.length ∧ ∃ r', rows' = rows ++ [r'] ∧ r'.l = [gx]) ∨ (∃ r r', rows[m]? = some r ∧ r.l.length ≠ 20 ∧ rows' = rows.set m r' ∧ r'.l = r.l ++ [gx])) ∧ e = .returned (.int .i64 0) ∧ S w' ([Ob g (.cells #[cu, .int .i64 ev, .slice P' rows'.length C', .map (some mg), .int .i64 now, .int .i64 til, .bool begun, .bool whole, .bool dn, .bool stopped] 64 (0, 0)), Rw 68 1 P' rows'.length C' (fl rowL rows'), RowsI 59 1 ptL rows', Fam 71 Tk.cells (adr rows') (upd tk gx (⟨s, 0, 0, false, false⟩ : Tk)), Mp Value.string (fun x : Nat => Value.pointer (some ⟨x, 0, none⟩)) okT mg (upM M s gx)] ++ [Old w (fps [Ob g (.cells #[cu, .int .i64 ev, .slice P rows.length C, .map (some mg), .int .i64 now, .int .i64 til, .bool begun, .bool whole, .bool dn, .bool stopped] 64 (0, 0)), Rw 68 1 P rows.length C (fl rowL rows), RowsI 59 1 ptL rows, Fam 71 Tk.cells (adr rows) tk, Mp Value.string (fun x : Nat => Value.pointer (some ⟨x, 0, none⟩)) okT mg M])])) := by
 have H0 := HS.beginI
 refine enter 100 Try.func45 rfl rfl rfl ?_
 refine g_weak [(0, .pointer (some ⟨g, 0, none⟩)), (1, .int .i64 ((m : Int))), (2, .string s)] ⟨rfl, rfl, rfl, trivial⟩ ?_
 refine w_s ?_
 refine w_a ?_
 refine w_e ?_
 refine g_seq ?_
 refine g_block ?_
 refine w_s ?_
 refine w_m ?_
 refine w_b (v := .bool false) (hb := (b_eqN (r := false) Try.underlying26 rfl)) ?_
 refine w_m ?_
 refine w_g rfl xm ?_
 refine l_of (s_call0 H0 (wt1 rfl rfl rfl rfl rfl) (x_call' rfl rfl cl30) (text_s s _) rfl rfl ?_)
 intro wq1 H2
 refine w_g (v := .bool (!((textS s)))) rfl (x_not (b := (textS s)) rfl rfl) ?_
 refine w_v (v := .bool (!((textS s)))) (x_pick_f rfl rfl rfl rfl) ?_
 refine w_a ?_
 refine w_e ?_
 rcases Bool.eq_false_or_eq_true ((textS s)) with hb3 | hb3
 ·
  have hok_s := okT_of hb3
  refine g_cond_f rfl (neg_of hb3) ?_
  refine w_s ?_
  refine w_m ?_
  refine w_b ?_
  refine w_m ?_
  refine l_of (s_val (v := .int .i64 ((m : Int))) (wt1 rfl rfl rfl rfl (decide_eq_false (by omega))) rfl rfl (x_move rfl rfl) ?_)
  refine l_of (s_val (v := .pointer (some ⟨g, 0, none⟩)) (wt1 rfl rfl rfl rfl (decide_eq_false (by omega))) rfl rfl (x_move rfl rfl) ?_)
  refine l_of (s_val (v := .pointer (some ⟨g, 0, none⟩)) (wt1 rfl rfl rfl rfl (decide_eq_false (by omega))) rfl rfl (x_nilCheck rfl rfl) ?_)
  refine l_of (s_val (v := .pointer (some ⟨g, 2, none⟩)) (wt1 rfl rfl rfl rfl (decide_eq_false (by omega))) rfl rfl (x_fieldAddr rfl rfl fo64_1 rfl) ?_)
  refine l_of (s_val (v := .slice P rows.length C) (wt1 rfl rfl rfl rfl (decide_eq_false (by omega))) rfl rfl (x_load1 H2 0 rfl rfl Try.underlying62 rfl rfl rfl) ?_)
  refine l_of (s_val (v := .int .i64 ((rows.length : Int))) (wt1 rfl rfl rfl rfl (decide_eq_false (by omega))) rfl rfl (x_lenl rfl rfl Try.underlying62) ?_)
  refine l_of (s_val (v := .bool (decide (((rows.length : Int) : Int) < (m : Int)))) (wt1 rfl rfl rfl rfl (decide_eq_false (by omega))) rfl rfl (x_bin rfl rfl rfl b_gtr) ?_)
  refine w_v (v := .bool (decide (((rows.length : Int) : Int) < (m : Int)))) (x_pick_f rfl rfl (decide_eq_false (by omega)) rfl) ?_
  refine w_a ?_
  refine w_e ?_
  refine g_weak [(0, .pointer (some ⟨g, 0, none⟩)), (1, .int .i64 ((m : Int))), (2, .string s), (16, .bool (decide (((rows.length : Int) : Int) < (m : Int))))] ⟨rfl, rfl, rfl, rfl, trivial⟩ ?_
  refine g_cond_f rfl (decide_eq_false (by omega)) ?_
  refine w_s ?_
  refine w_r3 ?_
  refine w_1 H2 0 ?_
  refine w_m ?_
  rcases hM : M s with _ | xo
  ·
   refine w_v (v := .pointer none) (ex_cast (x_lookup1 (x := s) (strTy Try.underlying58 Try.underlying9) H2 4 rfl rfl rfl rfl hok_s ze59) (by rw [hM]; rfl)) ?_
   refine w_b (v := .bool false) (hb := (b_neN (r := true) Try.underlying59 rfl)) ?_
   refine w_a ?_
   refine w_e ?_
   refine g_cond_f rfl rfl ?_
   refine w_s ?_
   refine w_m ?_
   refine w_b ?_
   refine w_m ?_
   by_cases hb4 : ((m : Int) : Int) = 20
   ·
    refine w_n (decide_eq_true hb4) ?_
    refine w_n (decide_eq_true hb4) ?_
    refine w_n (decide_eq_true hb4) ?_
    refine w_n (decide_eq_true hb4) ?_
    refine w_n (decide_eq_true hb4) ?_
    refine w_n (decide_eq_true hb4) ?_
    refine w_n (decide_eq_true hb4) ?_
    refine w_n (decide_eq_true hb4) ?_
    refine l_of (s_not (wn2 rfl rfl rfl rfl) rfl rfl ?_)
    refine l_of (s_not (wn2 rfl rfl rfl rfl) rfl rfl ?_)
    refine l_of (s_not (wn2 rfl rfl rfl rfl) rfl rfl ?_)
    refine l_of (s_not (wn2 rfl rfl rfl rfl) rfl rfl ?_)
    refine l_of (s_not (wn2 rfl rfl rfl rfl) rfl rfl ?_)
    refine l_of (s_not (wn2 rfl rfl rfl rfl) rfl rfl ?_)
    refine l_of (s_not (wn2 rfl rfl rfl rfl) rfl rfl ?_)
    refine l_of (s_not (wn2 rfl rfl rfl rfl) rfl rfl ?_)
    refine l_of (s_not (wn2 rfl rfl rfl rfl) rfl rfl ?_)
    refine w_n (decide_eq_true hb4) ?_
    refine w_v (v := .bool true) (x_pick_t rfl rfl (decide_eq_true hb4) rfl) ?_
    refine w_a ?_
    refine w_e ?_
    refine g_weak [(0, .pointer (some ⟨g, 0, none⟩)), (1, .int .i64 ((m : Int))), (2, .string s), (36, .bool true)] ⟨rfl, rfl, rfl, rfl, trivial⟩ ?_
    refine g_cond_t rfl rfl ?_
    refine w_s ?_
    refine w_a ?_
    refine w_e ?_
    refine g_ret ?_
    refine g_in_ret ?_
    refine g_then_ret ?_
    refine fin_ret [.tmp 6] [.int .i64 4] rfl ⟨rfl, trivial⟩ ?_
    exact .inr (.inr (.inl ⟨hb3, rfl, (.inl (by omega)), rfl, H2.takes [0, 1, 2, 3, 4, 5] (by decide)⟩))
   ·
    refine w_g (decide_eq_false hb4) xm ?_
    refine w_g (decide_eq_false hb4) xm ?_
    refine w_g (decide_eq_false hb4) xn ?_
    refine w_g (decide_eq_false hb4) (xf 2) ?_
    refine w_g (decide_eq_false hb4) (xl H2 0) ?_
    refine w_g (v := .int .i64 ((rows.length : Int))) (decide_eq_false hb4) (x_lenl rfl rfl Try.underlying62) ?_
    refine w_g (decide_eq_false hb4) (x_bin rfl rfl rfl b_lss) ?_
    refine w_g (decide_eq_false hb4) xm ?_
    by_cases hb5 : ((m : Int) : Int) < (rows.length : Int)
    ·
     refine w_g (decide_eq_true hb5) xm ?_
     refine w_g (decide_eq_true hb5) xn ?_
     refine w_g (decide_eq_true hb5) (xf 2) ?_
     refine w_g (decide_eq_true hb5) (xl H2 0) ?_
     refine w_g (decide_eq_true hb5) xm ?_
     refine w_g (v := .pointer ((P).map fun q => q.add (m * 1))) (decide_eq_true hb5) (x_idxR m (H2.rwReads (k := 1) rfl) rfl rfl rfl Try.underlying62 sz68 (by omega)) ?_
     have hlq := (H2.rwReads (k := 1) rfl).lenL rowE
     obtain ⟨x6, hx6⟩ := ex_at (l := rows) (j := m) (by omega)
     clear hlq
     have hrlx6 := hrl x6 (List.mem_of_getElem? hx6)
     refine w_g (v := .slice x6.p x6.l.length x6.c) (decide_eq_true hb5) (x_loadR1 m (H2.rwReads (k := 1) rfl) (by omega) rfl rfl Try.underlying68 rfl (rowE.flAt1 hx6 rfl)) ?_
     refine w_g (v := .int .i64 ((x6.l.length : Int))) (decide_eq_true hb5) (x_lenl rfl rfl Try.underlying68) ?_
     refine w_g (decide_eq_true hb5) (x_bin rfl rfl rfl b_eql) ?_
     refine w_g (v := .bool (decide (((x6.l.length : Int) : Int) = 20))) (decide_eq_false hb4) (x_pick_t rfl rfl (decide_eq_true hb5) rfl) ?_
     refine w_v (v := .bool (decide (((x6.l.length : Int) : Int) = 20))) (x_pick_f rfl rfl (decide_eq_false hb4) rfl) ?_
     refine w_a ?_
     refine w_e ?_
     refine g_weak [(0, .pointer (some ⟨g, 0, none⟩)), (1, .int .i64 ((m : Int))), (2, .string s), (36, .bool (decide (((x6.l.length : Int) : Int) = 20)))] ⟨rfl, rfl, rfl, rfl, trivial⟩ ?_
     by_cases hb7 : ((x6.l.length : Int) : Int) = 20
     ·
      refine g_cond_t rfl (decide_eq_true hb7) ?_
      refine w_s ?_
      refine w_a ?_
      refine w_e ?_
      refine g_ret ?_
      refine g_in_ret ?_
      refine g_then_ret ?_
      refine fin_ret [.tmp 6] [.int .i64 4] rfl ⟨rfl, trivial⟩ ?_
      exact .inr (.inr (.inl ⟨hb3, rfl, (.inr ⟨x6, hx6, by omega⟩), rfl, H2.takes [0, 1, 2, 3, 4, 5] (by decide)⟩))
     ·
      refine g_cond_f rfl (decide_eq_false hb7) ?_
      refine g_skip ?_
      refine g_in ?_
      refine g_then ?_
      refine g_seq ?_
      refine w_s ?_
      refine w_r4 ?_
      refine w_1 H2 0 ?_
      refine w_v (v := .int .i64 ((rows.length : Int))) (x_lenl rfl rfl Try.underlying62) ?_
      refine w_b ?_
      refine w_e ?_
      by_cases hb8 : ((m : Int) : Int) = (rows.length : Int)
      ·
       refine g_cond_t rfl (decide_eq_true hb8) ?_
       refine g_region ?_
       refine w_r4 ?_
       refine w_1 H2 0 ?_
       refine l_of (s_buildSlice H2 (wt0 rfl) rfl rfl rfl (vs := [.slice none 0 0]) rfl Try.underlying62 sz68 ze68 rfl rfl (cells := #[.slice none 0 0]) (by kernel_rfl) ?_)
       intro g9 wq10 H11
       have hln16a := (H11.rwReads (k := 2) rfl).lenL rowE
       have hln16 : (rows ++ [(⟨none, 0, []⟩ : Ro Nat)]).length = rows.length + 1 := by simp only [List.length_append, List.length_cons, List.length_nil] <;> omega
       refine l_of (s_appBn (m := 1) (l := rows) (l2 := [(⟨none, 0, []⟩ : Ro Nat)]) rowE H11 2 (j0 := 0) rfl rfl ⟨rfl, Nat.le_refl _⟩ (wt0 rfl) rfl rfl rfl rfl rfl rfl Try.underlying62 inf68 rfl (by decide) (by omega) ?_)
       intro p12 c13 wq14 H15
       refine w_r2 ?_
       refine l_of (w_st #[cu, .int .i64 ev, .slice p12 ((rows ++ [(⟨none, 0, []⟩ : Ro Nat)]).length) c13, .map (some mg), .int .i64 now, .int .i64 til, .bool begun, .bool whole, .bool dn, .bool stopped] H15 1 ?_)
       intro wq17 H18
       refine w_e ?_
       refine g_weak [(0, .pointer (some ⟨g, 0, none⟩)), (1, .int .i64 ((m : Int))), (2, .string s)] ⟨rfl, rfl, rfl, trivial⟩ ?_
       refine w_s ?_
       have H19 := S.ptNil (H18.takes [3, 0, 1, 2, 4, 5, 6] (by decide))
       refine w_m ?_
       refine w_v (v := .agg #[.string s, .int .i64 0, .int .i64 0, .bool false, .bool false]) (x_build (vs := [.string s]) rfl rfl (cells := #[.string s, .int .i64 0, .int .i64 0, .bool false, .bool false]) (by kernel_rfl)) ?_
       refine l_of (s_box H19 (wt0 rfl) rfl rfl rfl rfl ?_)
       intro g20 wq21 H22
       refine w_a ?_
       refine w_e ?_
       refine w_s ?_
       have hlq := (H22.rwReads (k := 4) rfl).lenL rowE
       obtain ⟨x23, hx23⟩ := ex_at (l := (rows ++ [(⟨none, 0, []⟩ : Ro Nat)])) (j := m) (by omega)
       clear hlq
       have hx23e : x23 = (⟨none, 0, []⟩ : Ro Nat) := by have h9 := hx23; rw [List.getElem?_append_right (by omega), show m - rows.length = 0 from by omega] at h9; exact (Option.some.inj h9).symm
       have hrlx23 : x23.l.length = 0 := by rw [hx23e]; rfl
       have H24 := S.rowsOut (H22.takes [1, 0, 2, 3, 4, 5, 6, 7] (by decide)) hx23
       refine w_r3 ?_
       refine w_1 H24 4 ?_
       refine w_r2 ?_
       have hgx : g20 ∉ adr rows := H24.famNew (i := 2) (j := 6) rfl rfl (by decide)
       refine l_of (s_mapUpdate (x := s) (a := g20) (strTy Try.underlying58 Try.underlying9) H24 7 (wt0 rfl) rfl rfl rfl rfl rfl rfl (hok_s) ?_)
       intro wq25 H26
       refine w_e ?_
       refine g_seq ?_
       refine g_any [] (fun wx => S wx [RowsI 59 1 ptL ((rows ++ [(⟨none, 0, []⟩ : Ro Nat)]).eraseIdx m), Ob g20 (.cells #[.string s, .int .i64 0, .int .i64 0, .bool false, .bool false] 71 (0, 0)), Ob g9 (.cells #[.slice none 0 0] 68 (0, 0)), Ob g (.cells #[cu, .int .i64 ev, .slice p12 ((rows ++ [(⟨none, 0, []⟩ : Ro Nat)]).length) c13, .map (some mg), .int .i64 now, .int .i64 til, .bool begun, .bool whole, .bool dn, .bool stopped] 64 (0, 0)), Rw 68 1 p12 ((rows ++ [(⟨none, 0, []⟩ : Ro Nat)]).length) c13 (fl rowL (rows ++ [(⟨none, 0, []⟩ : Ro Nat)])), Fam 71 Tk.cells (adr rows) tk, Mp Value.string (fun x : Nat => Value.pointer (some ⟨x, 0, none⟩)) okT mg (upM M s g20), Old w (fps [Ob g (.cells #[cu, .int .i64 ev, .slice P rows.length C, .map (some mg), .int .i64 now, .int .i64 til, .bool begun, .bool whole, .bool dn, .bool stopped] 64 (0, 0)), Rw 68 1 P rows.length C (fl rowL rows), RowsI 59 1 ptL rows, Fam 71 Tk.cells (adr rows) tk, Mp Value.string (fun x : Nat => Value.pointer (some ⟨x, 0, none⟩)) okT mg M])]) [16] (by kernel_rfl) H26 (fun wq27 H28 => ?_)
       have cm1 := H28.mask [false, true, true, true, true, true, true, true, true]
       refine w_t 0 rfl cm1 (fun _ _ => xm) ?_
       refine w_t 1 rfl cm1 (fun _ _ => xn) ?_
       refine w_t 2 rfl cm1 (fun _ _ => xf 2) ?_
       refine w_t 3 rfl cm1 (fun _ H => xl H 3) ?_
       refine w_t 4 rfl cm1 (fun _ _ => xm) ?_
       refine w_t 5 rfl cm1 (fun _ _ => xm) ?_
       refine w_t 6 rfl cm1 (fun _ _ => xn) ?_
       refine w_t 7 rfl cm1 (fun _ _ => xf 2) ?_
       refine w_t 8 rfl cm1 (fun _ H => xl H 3) ?_
       refine w_t 9 rfl cm1 (fun _ _ => xm) ?_
       refine w_t (v := .pointer ((p12).map fun q => q.add (m * 1))) 10 rfl cm1 (fun _ _ => x_idxP m ((H28.rwReads (k := 5) rfl).some (by omega)) rfl rfl rfl Try.underlying62 sz68 (by omega)) ?_
       refine w_t (v := .slice x23.p x23.l.length x23.c) 11 rfl cm1 (fun _ H => x_loadR1 m (H.rwReads (k := 4) rfl) (by omega) rfl rfl Try.underlying68 rfl (rowE.flAt1 hx23 rfl)) ?_
       refine w_t 12 rfl cm1 (fun _ _ => xm) ?_
       refine a_one (i := 13) (by kernel_rfl) rfl ?_
       refine s_buildSlice H28 (wt0 rfl) rfl rfl rfl (vs := [.pointer (some ⟨g20, 0, none⟩)]) rfl Try.underlying68 sz59 ze59 rfl rfl (cells := #[.pointer (some ⟨g20, 0, none⟩)]) (by kernel_rfl) ?_
       intro g29 wq30 H31
       refine a_k (H31.mask [false, false, true, true, true, true, true, true, true, true]) ?_
       refine a_one (i := 14) (by kernel_rfl) rfl ?_
       have hln36a := (H31.rwReads (k := 1) rfl).lenL ptE
       have hln36 : (x23.l ++ [g20]).length = x23.l.length + 1 := by simp only [List.length_append, List.length_cons, List.length_nil] <;> omega
       refine s_appBn (m := 1) (l := x23.l) (l2 := [g20]) ptE H31 1 (j0 := 0) rfl rfl ⟨rfl, Nat.le_refl _⟩ (wt0 rfl) rfl rfl rfl rfl rfl rfl Try.underlying68 inf59 rfl (by decide) (by omega) ?_
       intro p32 c33 wq34 H35
       have cm2 := H35.mask [false, false, true, true, true, true, true, true, true, true]
       refine a_k cm2 ?_
       refine w_t (v := .pointer ((p12).map fun q => q.add (m * 1))) 15 rfl cm2 (fun _ _ => x_idxP m ((H35.rwReads (k := 6) rfl).some (by omega)) rfl rfl rfl Try.underlying62 sz68 (by omega)) ?_
       refine a_one (i := 16) (by kernel_rfl) rfl ?_
       refine s_stoL (j := m) rowE (⟨p32, c33, (x23.l ++ [g20])⟩ : Ro Nat) H35 6 (wt0 rfl) rfl rfl rfl rfl rfl rfl sz68 (by omega) ?_
       intro wq37 H38
       refine a_kt rfl ?_
       refine a_done (by kernel_rfl) ?_
       refine g_then ?_
       refine g_weak [] trivial ?_
       refine w_s ?_
       refine w_a ?_
       refine w_e ?_
       refine g_ret ?_
       refine fin_ret [.tmp 6] [.int .i64 0] rfl ⟨rfl, trivial⟩ ?_
       have H39 := S.rowsIn (r := (⟨p32, c33, (x23.l ++ [g20])⟩ : Ro Nat)) (rs := (rows ++ [(⟨none, 0, []⟩ : Ro Nat)])) (j := m) (e := 59) (size := 1) (enc := ptL) (H38.takes [1, 2, 5, 6, 7, 8, 3, 9] (by decide)) (by first | omega | (simp only [List.length_append, List.length_singleton]; omega))
       have H40 := S.famCons (enc := Tk.cells) (a := (⟨s, 0, 0, false, false⟩ : Tk)) (H39.takes [5, 3, 0, 1, 2, 4, 6] (by decide))
       have H41 := H40.famPerm (show (g20 :: adr rows).Perm (adr ((rows ++ [(⟨none, 0, []⟩ : Ro Nat)]).set m (⟨p32, c33, (x23.l ++ [g20])⟩ : Ro Nat))) from by rw [← adr_nil rows]; exact adr_set hx23)
       have hhl : ((rows ++ [(⟨none, 0, []⟩ : Ro Nat)]).set m (⟨p32, c33, (x23.l ++ [g20])⟩ : Ro Nat)).length = (rows ++ [(⟨none, 0, []⟩ : Ro Nat)]).length := List.length_set
       exact .inr (.inr (.inr ⟨hb3, rfl, by omega, g20, _, _, ((rows ++ [(⟨none, 0, []⟩ : Ro Nat)]).set m (⟨p32, c33, (x23.l ++ [g20])⟩ : Ro Nat)), hgx, (.inl ⟨by omega, (⟨p32, c33, (x23.l ++ [g20])⟩ : Ro Nat), by rw [set_last (by omega)], by rw [show x23.l = [] from by rw [hx23e]]; rfl⟩), rfl, by rw [hhl]; exact H41.takes [2, 3, 1, 0, 4, 5] (by decide)⟩))
      ·
       refine g_cond_f rfl (decide_eq_false hb8) ?_
       refine g_skip ?_
       refine g_then ?_
       refine w_s ?_
       refine w_m ?_
       refine w_v (v := .agg #[.string s, .int .i64 0, .int .i64 0, .bool false, .bool false]) (x_build (vs := [.string s]) rfl rfl (cells := #[.string s, .int .i64 0, .int .i64 0, .bool false, .bool false]) (by kernel_rfl)) ?_
       refine l_of (s_box H2 (wt0 rfl) rfl rfl rfl rfl ?_)
       intro g42 wq43 H44
       refine w_a ?_
       refine w_e ?_
       refine w_s ?_
       have H45 := S.rowsOut (H44.takes [3, 0, 1, 2, 4, 5, 6] (by decide)) hx6
       refine w_r3 ?_
       refine w_1 H45 3 ?_
       refine w_r2 ?_
       have hgx : g42 ∉ adr rows := H45.famNew (i := 2) (j := 5) rfl rfl (by decide)
       refine l_of (s_mapUpdate (x := s) (a := g42) (strTy Try.underlying58 Try.underlying9) H45 6 (wt0 rfl) rfl rfl rfl rfl rfl rfl (hok_s) ?_)
       intro wq46 H47
       refine w_e ?_
       refine g_weak [(0, .pointer (some ⟨g, 0, none⟩)), (1, .int .i64 ((m : Int))), (7, .pointer (some ⟨g42, 0, none⟩))] ⟨rfl, rfl, rfl, trivial⟩ ?_
       refine g_seq ?_
       refine g_any [] (fun wx => S wx [RowsI 59 1 ptL (rows.eraseIdx m), Ob g42 (.cells #[.string s, .int .i64 0, .int .i64 0, .bool false, .bool false] 71 (0, 0)), Ob g (.cells #[cu, .int .i64 ev, .slice P rows.length C, .map (some mg), .int .i64 now, .int .i64 til, .bool begun, .bool whole, .bool dn, .bool stopped] 64 (0, 0)), Rw 68 1 P rows.length C (fl rowL rows), Fam 71 Tk.cells (adr rows) tk, Mp Value.string (fun x : Nat => Value.pointer (some ⟨x, 0, none⟩)) okT mg (upM M s g42), Old w (fps [Ob g (.cells #[cu, .int .i64 ev, .slice P rows.length C, .map (some mg), .int .i64 now, .int .i64 til, .bool begun, .bool whole, .bool dn, .bool stopped] 64 (0, 0)), Rw 68 1 P rows.length C (fl rowL rows), RowsI 59 1 ptL rows, Fam 71 Tk.cells (adr rows) tk, Mp Value.string (fun x : Nat => Value.pointer (some ⟨x, 0, none⟩)) okT mg M])]) [16] (by kernel_rfl) H47 (fun wq48 H49 => ?_)
       have cm3 := H49.mask [false, true, true, true, true, true, true, true]
       refine w_t 0 rfl cm3 (fun _ _ => xm) ?_
       refine w_t 1 rfl cm3 (fun _ _ => xn) ?_
       refine w_t 2 rfl cm3 (fun _ _ => xf 2) ?_
       refine w_t 3 rfl cm3 (fun _ H => xl H 2) ?_
       refine w_t 4 rfl cm3 (fun _ _ => xm) ?_
       refine w_t 5 rfl cm3 (fun _ _ => xm) ?_
       refine w_t 6 rfl cm3 (fun _ _ => xn) ?_
       refine w_t 7 rfl cm3 (fun _ _ => xf 2) ?_
       refine w_t 8 rfl cm3 (fun _ H => xl H 2) ?_
       refine w_t 9 rfl cm3 (fun _ _ => xm) ?_
       refine w_t (v := .pointer ((P).map fun q => q.add (m * 1))) 10 rfl cm3 (fun _ _ => x_idxP m ((H49.rwReads (k := 4) rfl).some (by omega)) rfl rfl rfl Try.underlying62 sz68 (by omega)) ?_
       refine w_t (v := .slice x6.p x6.l.length x6.c) 11 rfl cm3 (fun _ H => x_loadR1 m (H.rwReads (k := 3) rfl) (by omega) rfl rfl Try.underlying68 rfl (rowE.flAt1 hx6 rfl)) ?_
       refine w_t 12 rfl cm3 (fun _ _ => xm) ?_
       refine a_one (i := 13) (by kernel_rfl) rfl ?_
       refine s_buildSlice H49 (wt0 rfl) rfl rfl rfl (vs := [.pointer (some ⟨g42, 0, none⟩)]) rfl Try.underlying68 sz59 ze59 rfl rfl (cells := #[.pointer (some ⟨g42, 0, none⟩)]) (by kernel_rfl) ?_
       intro g50 wq51 H52
       refine a_k (H52.mask [false, false, true, true, true, true, true, true, true]) ?_
       refine a_one (i := 14) (by kernel_rfl) rfl ?_
       have hln57a := (H52.rwReads (k := 1) rfl).lenL ptE
       have hln57 : (x6.l ++ [g42]).length = x6.l.length + 1 := by simp only [List.length_append, List.length_cons, List.length_nil] <;> omega
       refine s_appBn (m := 1) (l := x6.l) (l2 := [g42]) ptE H52 1 (j0 := 0) rfl rfl ⟨rfl, Nat.le_refl _⟩ (wt0 rfl) rfl rfl rfl rfl rfl rfl Try.underlying68 inf59 rfl (by decide) (by omega) ?_
       intro p53 c54 wq55 H56
       have cm4 := H56.mask [false, false, true, true, true, true, true, true, true]
       refine a_k cm4 ?_
       refine w_t (v := .pointer ((P).map fun q => q.add (m * 1))) 15 rfl cm4 (fun _ _ => x_idxP m ((H56.rwReads (k := 5) rfl).some (by omega)) rfl rfl rfl Try.underlying62 sz68 (by omega)) ?_
       refine a_one (i := 16) (by kernel_rfl) rfl ?_
       refine s_stoL (j := m) rowE (⟨p53, c54, (x6.l ++ [g42])⟩ : Ro Nat) H56 5 (wt0 rfl) rfl rfl rfl rfl rfl rfl sz68 (by omega) ?_
       intro wq58 H59
       refine a_kt rfl ?_
       refine a_done (by kernel_rfl) ?_
       refine g_then ?_
       refine g_weak [] trivial ?_
       refine w_s ?_
       refine w_a ?_
       refine w_e ?_
       refine g_ret ?_
       refine fin_ret [.tmp 6] [.int .i64 0] rfl ⟨rfl, trivial⟩ ?_
       have H60 := S.rowsIn (r := (⟨p53, c54, (x6.l ++ [g42])⟩ : Ro Nat)) (rs := rows) (j := m) (e := 59) (size := 1) (enc := ptL) (H59.takes [1, 2, 4, 5, 6, 7, 3, 8] (by decide)) (by first | omega | (simp only [List.length_append, List.length_singleton]; omega))
       have H61 := S.famCons (enc := Tk.cells) (a := (⟨s, 0, 0, false, false⟩ : Tk)) (H60.takes [5, 3, 0, 1, 2, 4, 6] (by decide))
       have H62 := H61.famPerm (show (g42 :: adr rows).Perm (adr (rows.set m (⟨p53, c54, (x6.l ++ [g42])⟩ : Ro Nat))) from by exact adr_set hx6)
       have hhl : (rows.set m (⟨p53, c54, (x6.l ++ [g42])⟩ : Ro Nat)).length = rows.length := List.length_set
       exact .inr (.inr (.inr ⟨hb3, rfl, by omega, g42, _, _, (rows.set m (⟨p53, c54, (x6.l ++ [g42])⟩ : Ro Nat)), hgx, (.inr ⟨x6, (⟨p53, c54, (x6.l ++ [g42])⟩ : Ro Nat), hx6, by omega, rfl, rfl⟩), rfl, by rw [hhl]; exact H62.takes [2, 3, 1, 0, 4, 5] (by decide)⟩))
    ·
     refine w_n (decide_eq_false hb5) ?_
     refine w_n (decide_eq_false hb5) ?_
     refine w_n (decide_eq_false hb5) ?_
     refine w_n (decide_eq_false hb5) ?_
     refine w_n (decide_eq_false hb5) ?_
     refine w_n (decide_eq_false hb5) ?_
     refine w_n (decide_eq_false hb5) ?_
     refine w_n (decide_eq_false hb5) ?_
     refine w_n (decide_eq_false hb5) ?_
     refine w_g (v := .bool false) (decide_eq_false hb4) (x_pick_f rfl rfl (decide_eq_false hb5) rfl) ?_
     refine w_v (v := .bool false) (x_pick_f rfl rfl (decide_eq_false hb4) rfl) ?_
     refine w_a ?_
     refine w_e ?_
     refine g_weak [(0, .pointer (some ⟨g, 0, none⟩)), (1, .int .i64 ((m : Int))), (2, .string s), (36, .bool false)] ⟨rfl, rfl, rfl, rfl, trivial⟩ ?_
     refine g_cond_f rfl rfl ?_
     refine g_skip ?_
     refine g_in ?_
     refine g_then ?_
     refine g_seq ?_
     refine w_s ?_
     refine w_r4 ?_
     refine w_1 H2 0 ?_
     refine w_v (v := .int .i64 ((rows.length : Int))) (x_lenl rfl rfl Try.underlying62) ?_
     refine w_b ?_
     refine w_e ?_
     by_cases hb63 : ((m : Int) : Int) = (rows.length : Int)
     ·
      refine g_cond_t rfl (decide_eq_true hb63) ?_
      refine g_region ?_
      refine w_r4 ?_
      refine w_1 H2 0 ?_
      refine l_of (s_buildSlice H2 (wt0 rfl) rfl rfl rfl (vs := [.slice none 0 0]) rfl Try.underlying62 sz68 ze68 rfl rfl (cells := #[.slice none 0 0]) (by kernel_rfl) ?_)
      intro g64 wq65 H66
      have hln71a := (H66.rwReads (k := 2) rfl).lenL rowE
      have hln71 : (rows ++ [(⟨none, 0, []⟩ : Ro Nat)]).length = rows.length + 1 := by simp only [List.length_append, List.length_cons, List.length_nil] <;> omega
      refine l_of (s_appBn (m := 1) (l := rows) (l2 := [(⟨none, 0, []⟩ : Ro Nat)]) rowE H66 2 (j0 := 0) rfl rfl ⟨rfl, Nat.le_refl _⟩ (wt0 rfl) rfl rfl rfl rfl rfl rfl Try.underlying62 inf68 rfl (by decide) (by omega) ?_)
      intro p67 c68 wq69 H70
      refine w_r2 ?_
      refine l_of (w_st #[cu, .int .i64 ev, .slice p67 ((rows ++ [(⟨none, 0, []⟩ : Ro Nat)]).length) c68, .map (some mg), .int .i64 now, .int .i64 til, .bool begun, .bool whole, .bool dn, .bool stopped] H70 1 ?_)
      intro wq72 H73
      refine w_e ?_
      refine g_weak [(0, .pointer (some ⟨g, 0, none⟩)), (1, .int .i64 ((m : Int))), (2, .string s)] ⟨rfl, rfl, rfl, trivial⟩ ?_
      refine w_s ?_
      have H74 := S.ptNil (H73.takes [3, 0, 1, 2, 4, 5, 6] (by decide))
      refine w_m ?_
      refine w_v (v := .agg #[.string s, .int .i64 0, .int .i64 0, .bool false, .bool false]) (x_build (vs := [.string s]) rfl rfl (cells := #[.string s, .int .i64 0, .int .i64 0, .bool false, .bool false]) (by kernel_rfl)) ?_
      refine l_of (s_box H74 (wt0 rfl) rfl rfl rfl rfl ?_)
      intro g75 wq76 H77
      refine w_a ?_
      refine w_e ?_
      refine w_s ?_
      have hlq := (H77.rwReads (k := 4) rfl).lenL rowE
      obtain ⟨x78, hx78⟩ := ex_at (l := (rows ++ [(⟨none, 0, []⟩ : Ro Nat)])) (j := m) (by omega)
      clear hlq
      have hx78e : x78 = (⟨none, 0, []⟩ : Ro Nat) := by have h9 := hx78; rw [List.getElem?_append_right (by omega), show m - rows.length = 0 from by omega] at h9; exact (Option.some.inj h9).symm
      have hrlx78 : x78.l.length = 0 := by rw [hx78e]; rfl
      have H79 := S.rowsOut (H77.takes [1, 0, 2, 3, 4, 5, 6, 7] (by decide)) hx78
      refine w_r3 ?_
      refine w_1 H79 4 ?_
      refine w_r2 ?_
      have hgx : g75 ∉ adr rows := H79.famNew (i := 2) (j := 6) rfl rfl (by decide)
      refine l_of (s_mapUpdate (x := s) (a := g75) (strTy Try.underlying58 Try.underlying9) H79 7 (wt0 rfl) rfl rfl rfl rfl rfl rfl (hok_s) ?_)
      intro wq80 H81
      refine w_e ?_
      refine g_seq ?_
      refine g_any [] (fun wx => S wx [RowsI 59 1 ptL ((rows ++ [(⟨none, 0, []⟩ : Ro Nat)]).eraseIdx m), Ob g75 (.cells #[.string s, .int .i64 0, .int .i64 0, .bool false, .bool false] 71 (0, 0)), Ob g64 (.cells #[.slice none 0 0] 68 (0, 0)), Ob g (.cells #[cu, .int .i64 ev, .slice p67 ((rows ++ [(⟨none, 0, []⟩ : Ro Nat)]).length) c68, .map (some mg), .int .i64 now, .int .i64 til, .bool begun, .bool whole, .bool dn, .bool stopped] 64 (0, 0)), Rw 68 1 p67 ((rows ++ [(⟨none, 0, []⟩ : Ro Nat)]).length) c68 (fl rowL (rows ++ [(⟨none, 0, []⟩ : Ro Nat)])), Fam 71 Tk.cells (adr rows) tk, Mp Value.string (fun x : Nat => Value.pointer (some ⟨x, 0, none⟩)) okT mg (upM M s g75), Old w (fps [Ob g (.cells #[cu, .int .i64 ev, .slice P rows.length C, .map (some mg), .int .i64 now, .int .i64 til, .bool begun, .bool whole, .bool dn, .bool stopped] 64 (0, 0)), Rw 68 1 P rows.length C (fl rowL rows), RowsI 59 1 ptL rows, Fam 71 Tk.cells (adr rows) tk, Mp Value.string (fun x : Nat => Value.pointer (some ⟨x, 0, none⟩)) okT mg M])]) [16] (by kernel_rfl) H81 (fun wq82 H83 => ?_)
      have cm5 := H83.mask [false, true, true, true, true, true, true, true, true]
      refine w_t 0 rfl cm5 (fun _ _ => xm) ?_
      refine w_t 1 rfl cm5 (fun _ _ => xn) ?_
      refine w_t 2 rfl cm5 (fun _ _ => xf 2) ?_
      refine w_t 3 rfl cm5 (fun _ H => xl H 3) ?_
      refine w_t 4 rfl cm5 (fun _ _ => xm) ?_
      refine w_t 5 rfl cm5 (fun _ _ => xm) ?_
      refine w_t 6 rfl cm5 (fun _ _ => xn) ?_
      refine w_t 7 rfl cm5 (fun _ _ => xf 2) ?_
      refine w_t 8 rfl cm5 (fun _ H => xl H 3) ?_
      refine w_t 9 rfl cm5 (fun _ _ => xm) ?_
      refine w_t (v := .pointer ((p67).map fun q => q.add (m * 1))) 10 rfl cm5 (fun _ _ => x_idxP m ((H83.rwReads (k := 5) rfl).some (by omega)) rfl rfl rfl Try.underlying62 sz68 (by omega)) ?_
      refine w_t (v := .slice x78.p x78.l.length x78.c) 11 rfl cm5 (fun _ H => x_loadR1 m (H.rwReads (k := 4) rfl) (by omega) rfl rfl Try.underlying68 rfl (rowE.flAt1 hx78 rfl)) ?_
      refine w_t 12 rfl cm5 (fun _ _ => xm) ?_
      refine a_one (i := 13) (by kernel_rfl) rfl ?_
      refine s_buildSlice H83 (wt0 rfl) rfl rfl rfl (vs := [.pointer (some ⟨g75, 0, none⟩)]) rfl Try.underlying68 sz59 ze59 rfl rfl (cells := #[.pointer (some ⟨g75, 0, none⟩)]) (by kernel_rfl) ?_
      intro g84 wq85 H86
      refine a_k (H86.mask [false, false, true, true, true, true, true, true, true, true]) ?_
      refine a_one (i := 14) (by kernel_rfl) rfl ?_
      have hln91a := (H86.rwReads (k := 1) rfl).lenL ptE
      have hln91 : (x78.l ++ [g75]).length = x78.l.length + 1 := by simp only [List.length_append, List.length_cons, List.length_nil] <;> omega
      refine s_appBn (m := 1) (l := x78.l) (l2 := [g75]) ptE H86 1 (j0 := 0) rfl rfl ⟨rfl, Nat.le_refl _⟩ (wt0 rfl) rfl rfl rfl rfl rfl rfl Try.underlying68 inf59 rfl (by decide) (by omega) ?_
      intro p87 c88 wq89 H90
      have cm6 := H90.mask [false, false, true, true, true, true, true, true, true, true]
      refine a_k cm6 ?_
      refine w_t (v := .pointer ((p67).map fun q => q.add (m * 1))) 15 rfl cm6 (fun _ _ => x_idxP m ((H90.rwReads (k := 6) rfl).some (by omega)) rfl rfl rfl Try.underlying62 sz68 (by omega)) ?_
      refine a_one (i := 16) (by kernel_rfl) rfl ?_
      refine s_stoL (j := m) rowE (⟨p87, c88, (x78.l ++ [g75])⟩ : Ro Nat) H90 6 (wt0 rfl) rfl rfl rfl rfl rfl rfl sz68 (by omega) ?_
      intro wq92 H93
      refine a_kt rfl ?_
      refine a_done (by kernel_rfl) ?_
      refine g_then ?_
      refine g_weak [] trivial ?_
      refine w_s ?_
      refine w_a ?_
      refine w_e ?_
      refine g_ret ?_
      refine fin_ret [.tmp 6] [.int .i64 0] rfl ⟨rfl, trivial⟩ ?_
      have H94 := S.rowsIn (r := (⟨p87, c88, (x78.l ++ [g75])⟩ : Ro Nat)) (rs := (rows ++ [(⟨none, 0, []⟩ : Ro Nat)])) (j := m) (e := 59) (size := 1) (enc := ptL) (H93.takes [1, 2, 5, 6, 7, 8, 3, 9] (by decide)) (by first | omega | (simp only [List.length_append, List.length_singleton]; omega))
      have H95 := S.famCons (enc := Tk.cells) (a := (⟨s, 0, 0, false, false⟩ : Tk)) (H94.takes [5, 3, 0, 1, 2, 4, 6] (by decide))
      have H96 := H95.famPerm (show (g75 :: adr rows).Perm (adr ((rows ++ [(⟨none, 0, []⟩ : Ro Nat)]).set m (⟨p87, c88, (x78.l ++ [g75])⟩ : Ro Nat))) from by rw [← adr_nil rows]; exact adr_set hx78)
      have hhl : ((rows ++ [(⟨none, 0, []⟩ : Ro Nat)]).set m (⟨p87, c88, (x78.l ++ [g75])⟩ : Ro Nat)).length = (rows ++ [(⟨none, 0, []⟩ : Ro Nat)]).length := List.length_set
      exact .inr (.inr (.inr ⟨hb3, rfl, by omega, g75, _, _, ((rows ++ [(⟨none, 0, []⟩ : Ro Nat)]).set m (⟨p87, c88, (x78.l ++ [g75])⟩ : Ro Nat)), hgx, (.inl ⟨by omega, (⟨p87, c88, (x78.l ++ [g75])⟩ : Ro Nat), by rw [set_last (by omega)], by rw [show x78.l = [] from by rw [hx78e]]; rfl⟩), rfl, by rw [hhl]; exact H96.takes [2, 3, 1, 0, 4, 5] (by decide)⟩))
     ·
      refine g_cond_f rfl (decide_eq_false hb63) ?_
      refine g_skip ?_
      refine g_then ?_
      refine w_s ?_
      refine w_m ?_
      refine w_v (v := .agg #[.string s, .int .i64 0, .int .i64 0, .bool false, .bool false]) (x_build (vs := [.string s]) rfl rfl (cells := #[.string s, .int .i64 0, .int .i64 0, .bool false, .bool false]) (by kernel_rfl)) ?_
      refine l_of (s_box H2 (wt0 rfl) rfl rfl rfl rfl ?_)
      intro g97 wq98 H99
      refine w_a ?_
      refine w_e ?_
      refine w_s ?_
      have hlq := (H99.rwReads (k := 2) rfl).lenL rowE
      obtain ⟨x100, hx100⟩ := ex_at (l := rows) (j := m) (by omega)
      clear hlq
      have hrlx100 := hrl x100 (List.mem_of_getElem? hx100)
      have H101 := S.rowsOut (H99.takes [3, 0, 1, 2, 4, 5, 6] (by decide)) hx100
      refine w_r3 ?_
      refine w_1 H101 3 ?_
      refine w_r2 ?_
      have hgx : g97 ∉ adr rows := H101.famNew (i := 2) (j := 5) rfl rfl (by decide)
      refine l_of (s_mapUpdate (x := s) (a := g97) (strTy Try.underlying58 Try.underlying9) H101 6 (wt0 rfl) rfl rfl rfl rfl rfl rfl (hok_s) ?_)
      intro wq102 H103
      refine w_e ?_
      refine g_weak [(0, .pointer (some ⟨g, 0, none⟩)), (1, .int .i64 ((m : Int))), (7, .pointer (some ⟨g97, 0, none⟩))] ⟨rfl, rfl, rfl, trivial⟩ ?_
      refine g_seq ?_
      refine g_any [] (fun wx => S wx [RowsI 59 1 ptL (rows.eraseIdx m), Ob g97 (.cells #[.string s, .int .i64 0, .int .i64 0, .bool false, .bool false] 71 (0, 0)), Ob g (.cells #[cu, .int .i64 ev, .slice P rows.length C, .map (some mg), .int .i64 now, .int .i64 til, .bool begun, .bool whole, .bool dn, .bool stopped] 64 (0, 0)), Rw 68 1 P rows.length C (fl rowL rows), Fam 71 Tk.cells (adr rows) tk, Mp Value.string (fun x : Nat => Value.pointer (some ⟨x, 0, none⟩)) okT mg (upM M s g97), Old w (fps [Ob g (.cells #[cu, .int .i64 ev, .slice P rows.length C, .map (some mg), .int .i64 now, .int .i64 til, .bool begun, .bool whole, .bool dn, .bool stopped] 64 (0, 0)), Rw 68 1 P rows.length C (fl rowL rows), RowsI 59 1 ptL rows, Fam 71 Tk.cells (adr rows) tk, Mp Value.string (fun x : Nat => Value.pointer (some ⟨x, 0, none⟩)) okT mg M])]) [16] (by kernel_rfl) H103 (fun wq104 H105 => ?_)
      have cm7 := H105.mask [false, true, true, true, true, true, true, true]
      refine w_t 0 rfl cm7 (fun _ _ => xm) ?_
      refine w_t 1 rfl cm7 (fun _ _ => xn) ?_
      refine w_t 2 rfl cm7 (fun _ _ => xf 2) ?_
      refine w_t 3 rfl cm7 (fun _ H => xl H 2) ?_
      refine w_t 4 rfl cm7 (fun _ _ => xm) ?_
      refine w_t 5 rfl cm7 (fun _ _ => xm) ?_
      refine w_t 6 rfl cm7 (fun _ _ => xn) ?_
      refine w_t 7 rfl cm7 (fun _ _ => xf 2) ?_
      refine w_t 8 rfl cm7 (fun _ H => xl H 2) ?_
      refine w_t 9 rfl cm7 (fun _ _ => xm) ?_
      refine w_t (v := .pointer ((P).map fun q => q.add (m * 1))) 10 rfl cm7 (fun _ _ => x_idxP m ((H105.rwReads (k := 4) rfl).some (by omega)) rfl rfl rfl Try.underlying62 sz68 (by omega)) ?_
      refine w_t (v := .slice x100.p x100.l.length x100.c) 11 rfl cm7 (fun _ H => x_loadR1 m (H.rwReads (k := 3) rfl) (by omega) rfl rfl Try.underlying68 rfl (rowE.flAt1 hx100 rfl)) ?_
      refine w_t 12 rfl cm7 (fun _ _ => xm) ?_
      refine a_one (i := 13) (by kernel_rfl) rfl ?_
      refine s_buildSlice H105 (wt0 rfl) rfl rfl rfl (vs := [.pointer (some ⟨g97, 0, none⟩)]) rfl Try.underlying68 sz59 ze59 rfl rfl (cells := #[.pointer (some ⟨g97, 0, none⟩)]) (by kernel_rfl) ?_
      intro g106 wq107 H108
      refine a_k (H108.mask [false, false, true, true, true, true, true, true, true]) ?_
      refine a_one (i := 14) (by kernel_rfl) rfl ?_
      have hln113a := (H108.rwReads (k := 1) rfl).lenL ptE
      have hln113 : (x100.l ++ [g97]).length = x100.l.length + 1 := by simp only [List.length_append, List.length_cons, List.length_nil] <;> omega
      refine s_appBn (m := 1) (l := x100.l) (l2 := [g97]) ptE H108 1 (j0 := 0) rfl rfl ⟨rfl, Nat.le_refl _⟩ (wt0 rfl) rfl rfl rfl rfl rfl rfl Try.underlying68 inf59 rfl (by decide) (by omega) ?_
      intro p109 c110 wq111 H112
      have cm8 := H112.mask [false, false, true, true, true, true, true, true, true]
      refine a_k cm8 ?_
      refine w_t (v := .pointer ((P).map fun q => q.add (m * 1))) 15 rfl cm8 (fun _ _ => x_idxP m ((H112.rwReads (k := 5) rfl).some (by omega)) rfl rfl rfl Try.underlying62 sz68 (by omega)) ?_
      refine a_one (i := 16) (by kernel_rfl) rfl ?_
      refine s_stoL (j := m) rowE (⟨p109, c110, (x100.l ++ [g97])⟩ : Ro Nat) H112 5 (wt0 rfl) rfl rfl rfl rfl rfl rfl sz68 (by omega) ?_
      intro wq114 H115
      refine a_kt rfl ?_
      refine a_done (by kernel_rfl) ?_
      refine g_then ?_
      refine g_weak [] trivial ?_
      refine w_s ?_
      refine w_a ?_
      refine w_e ?_
      refine g_ret ?_
      refine fin_ret [.tmp 6] [.int .i64 0] rfl ⟨rfl, trivial⟩ ?_
      have H116 := S.rowsIn (r := (⟨p109, c110, (x100.l ++ [g97])⟩ : Ro Nat)) (rs := rows) (j := m) (e := 59) (size := 1) (enc := ptL) (H115.takes [1, 2, 4, 5, 6, 7, 3, 8] (by decide)) (by first | omega | (simp only [List.length_append, List.length_singleton]; omega))
      have H117 := S.famCons (enc := Tk.cells) (a := (⟨s, 0, 0, false, false⟩ : Tk)) (H116.takes [5, 3, 0, 1, 2, 4, 6] (by decide))
      have H118 := H117.famPerm (show (g97 :: adr rows).Perm (adr (rows.set m (⟨p109, c110, (x100.l ++ [g97])⟩ : Ro Nat))) from by exact adr_set hx100)
      have hhl : (rows.set m (⟨p109, c110, (x100.l ++ [g97])⟩ : Ro Nat)).length = rows.length := List.length_set
      exact .inr (.inr (.inr ⟨hb3, rfl, by omega, g97, _, _, (rows.set m (⟨p109, c110, (x100.l ++ [g97])⟩ : Ro Nat)), hgx, (.inr ⟨x100, (⟨p109, c110, (x100.l ++ [g97])⟩ : Ro Nat), hx100, by omega, rfl, rfl⟩), rfl, by rw [hhl]; exact H118.takes [2, 3, 1, 0, 4, 5] (by decide)⟩))
  ·
   refine w_v (v := .pointer (some ⟨xo, 0, none⟩)) (ex_cast (x_lookup1 (x := s) (strTy Try.underlying58 Try.underlying9) H2 4 rfl rfl rfl rfl hok_s ze59) (by rw [hM]; rfl)) ?_
   refine w_b (v := .bool true) (hb := (b_neN (r := false) Try.underlying59 rfl)) ?_
   refine w_a ?_
   refine w_e ?_
   refine g_cond_t rfl rfl ?_
   refine w_s ?_
   refine w_a ?_
   refine w_e ?_
   refine g_weak [(6, .int .i64 6)] ⟨rfl, trivial⟩ ?_
   refine g_ret ?_
   refine g_in_ret ?_
   refine g_then_ret ?_
   refine fin_ret [.tmp 6] [.int .i64 6] rfl ⟨rfl, trivial⟩ ?_
   exact .inr (.inl ⟨hb3, ⟨_, rfl⟩, rfl, H2.takes [0, 1, 2, 3, 4, 5] (by decide)⟩)
 ·
  refine g_cond_t rfl (neg_of hb3) ?_
  refine w_s ?_
  refine w_a ?_
  refine w_e ?_
  refine g_ret ?_
  refine g_in_ret ?_
  refine g_then_ret ?_
  refine fin_ret [.tmp 6] [.int .i64 1] rfl ⟨rfl, trivial⟩ ?_
  exact .inl ⟨hb3, rfl, H2.takes [0, 1, 2, 3, 4, 5] (by decide)⟩
set_option maxRecDepth 20000 in
set_option maxHeartbeats 4000000 in
theorem add_e {g mg C : Nat} {P : Option Addr} {cu : Value} {ev now til : Int} {begun whole dn stopped : Bool} {rows : Rws} {tk : Nat → Tk} {M : ByteArray → Option Nat} {s : ByteArray} {q : Int} (hq : q < 0 ∨ (rows.length : Int) < q)  (w : World) (HS : S w [Ob g (.cells #[cu, .int .i64 ev, .slice P rows.length C, .map (some mg), .int .i64 now, .int .i64 til, .bool begun, .bool whole, .bool dn, .bool stopped] 64 (0, 0)), Rw 68 1 P rows.length C (fl rowL rows), RowsI 59 1 ptL rows, Fam 71 Tk.cells (adr rows) tk, Mp Value.string (fun x : Nat => Value.pointer (some ⟨x, 0, none⟩)) okT mg M]) : Calls Try.prog 45 #[.pointer (some ⟨g, 0, none⟩), .int .i64 q, .string s] w fun e w' => e = .returned (.int .i64 (if textS s = false then 1 else 7)) ∧ S w' ([Ob g (.cells #[cu, .int .i64 ev, .slice P rows.length C, .map (some mg), .int .i64 now, .int .i64 til, .bool begun, .bool whole, .bool dn, .bool stopped] 64 (0, 0)), Rw 68 1 P rows.length C (fl rowL rows), RowsI 59 1 ptL rows, Fam 71 Tk.cells (adr rows) tk, Mp Value.string (fun x : Nat => Value.pointer (some ⟨x, 0, none⟩)) okT mg M] ++ [Old w (fps [Ob g (.cells #[cu, .int .i64 ev, .slice P rows.length C, .map (some mg), .int .i64 now, .int .i64 til, .bool begun, .bool whole, .bool dn, .bool stopped] 64 (0, 0)), Rw 68 1 P rows.length C (fl rowL rows), RowsI 59 1 ptL rows, Fam 71 Tk.cells (adr rows) tk, Mp Value.string (fun x : Nat => Value.pointer (some ⟨x, 0, none⟩)) okT mg M])]) := by
 have H0 := HS.beginI
 refine enter 100 Try.func45 rfl rfl rfl ?_
 refine g_weak [(0, .pointer (some ⟨g, 0, none⟩)), (1, .int .i64 q), (2, .string s)] ⟨rfl, rfl, rfl, trivial⟩ ?_
 refine w_s ?_
 refine w_a ?_
 refine w_e ?_
 refine g_seq ?_
 refine g_block ?_
 refine w_s ?_
 refine w_m ?_
 refine w_b (v := .bool false) (hb := (b_eqN (r := false) Try.underlying26 rfl)) ?_
 refine w_m ?_
 refine w_g rfl xm ?_
 refine l_of (s_call0 H0 (wt1 rfl rfl rfl rfl rfl) (x_call' rfl rfl cl30) (text_s s _) rfl rfl ?_)
 intro wq1 H2
 refine w_g (v := .bool (!((textS s)))) rfl (x_not (b := (textS s)) rfl rfl) ?_
 refine w_v (v := .bool (!((textS s)))) (x_pick_f rfl rfl rfl rfl) ?_
 refine w_a ?_
 refine w_e ?_
 rcases Bool.eq_false_or_eq_true ((textS s)) with hb3 | hb3
 ·
  refine g_cond_f rfl (neg_of hb3) ?_
  refine w_s ?_
  refine w_m ?_
  refine w_b ?_
  refine w_m ?_
  by_cases hb4 : (q : Int) < 0
  ·
   refine w_n (decide_eq_true hb4) ?_
   refine w_n (decide_eq_true hb4) ?_
   refine w_n (decide_eq_true hb4) ?_
   refine w_n (decide_eq_true hb4) ?_
   refine w_n (decide_eq_true hb4) ?_
   refine w_n (decide_eq_true hb4) ?_
   refine w_n (decide_eq_true hb4) ?_
   refine w_v (v := .bool true) (x_pick_t rfl rfl (decide_eq_true hb4) rfl) ?_
   refine w_a ?_
   refine w_e ?_
   refine g_weak [(0, .pointer (some ⟨g, 0, none⟩)), (1, .int .i64 q), (2, .string s), (16, .bool true)] ⟨rfl, rfl, rfl, rfl, trivial⟩ ?_
   refine g_cond_t rfl rfl ?_
   refine w_s ?_
   refine w_a ?_
   refine w_e ?_
   refine g_ret ?_
   refine g_in_ret ?_
   refine g_then_ret ?_
   refine fin_ret [.tmp 6] [.int .i64 7] rfl ⟨rfl, trivial⟩ ?_
   exact ⟨by rw [if_neg (by rw [hb3]; decide)]; rfl, H2.takes [0, 1, 2, 3, 4, 5] (by decide)⟩
  ·
   refine w_g (decide_eq_false hb4) xm ?_
   refine w_g (decide_eq_false hb4) xm ?_
   refine w_g (decide_eq_false hb4) xn ?_
   refine w_g (decide_eq_false hb4) (xf 2) ?_
   refine w_g (decide_eq_false hb4) (xl H2 0) ?_
   refine w_g (v := .int .i64 ((rows.length : Int))) (decide_eq_false hb4) (x_lenl rfl rfl Try.underlying62) ?_
   refine w_g (decide_eq_false hb4) (x_bin rfl rfl rfl b_gtr) ?_
   refine w_v (v := .bool (decide (((rows.length : Int) : Int) < q))) (x_pick_f rfl rfl (decide_eq_false hb4) rfl) ?_
   refine w_a ?_
   refine w_e ?_
   refine g_weak [(0, .pointer (some ⟨g, 0, none⟩)), (1, .int .i64 q), (2, .string s), (16, .bool (decide (((rows.length : Int) : Int) < q)))] ⟨rfl, rfl, rfl, rfl, trivial⟩ ?_
   by_cases hb5 : ((rows.length : Int) : Int) < q
   ·
    refine g_cond_t rfl (decide_eq_true hb5) ?_
    refine w_s ?_
    refine w_a ?_
    refine w_e ?_
    refine g_ret ?_
    refine g_in_ret ?_
    refine g_then_ret ?_
    refine fin_ret [.tmp 6] [.int .i64 7] rfl ⟨rfl, trivial⟩ ?_
    exact ⟨by rw [if_neg (by rw [hb3]; decide)]; rfl, H2.takes [0, 1, 2, 3, 4, 5] (by decide)⟩
   ·
    refine g_cond_f rfl (decide_eq_false hb5) ?_
    refine w_s ?_
    exfalso; omega
 ·
  refine g_cond_t rfl (neg_of hb3) ?_
  refine w_s ?_
  refine w_a ?_
  refine w_e ?_
  refine g_ret ?_
  refine g_in_ret ?_
  refine g_then_ret ?_
  refine fin_ret [.tmp 6] [.int .i64 1] rfl ⟨rfl, trivial⟩ ?_
  exact ⟨by rw [if_pos hb3]; rfl, H2.takes [0, 1, 2, 3, 4, 5] (by decide)⟩
set_option maxRecDepth 20000 in
set_option maxHeartbeats 4000000 in
theorem add_Re {g C : Nat} {P : Option Addr} {rs : List (Ro Tk)} {now ev hol : Int} {nm : ByteArray} {und beg who dne stp : Bool} (hrs : rs.length ≤ 20) (hrl : ∀ r ∈ rs, r.l.length ≤ 20) {s : ByteArray} {q : Int} (hq : q < 0 ∨ (rs.length : Int) < q)  (w : World) (HS : S w [Ob g (.cells #[.slice P rs.length C, .int .i64 now, .bool und, .string nm, .int .i64 ev, .bool beg, .bool who, .bool dne, .bool stp, .int .i64 hol] 84 (0, 0)), Rw 85 1 P rs.length C (fl rowL rs), RowsI 87 5 tkL rs]) : Calls Try.prog 46 #[.pointer (some ⟨g, 0, none⟩), .int .i64 q, .string s] w fun e w' => e = .returned (.int .i64 (if textS s = false then 1 else 7)) ∧ S w' ([Ob g (.cells #[.slice P rs.length C, .int .i64 now, .bool und, .string nm, .int .i64 ev, .bool beg, .bool who, .bool dne, .bool stp, .int .i64 hol] 84 (0, 0)), Rw 85 1 P rs.length C (fl rowL rs), RowsI 87 5 tkL rs] ++ [Old w (fps [Ob g (.cells #[.slice P rs.length C, .int .i64 now, .bool und, .string nm, .int .i64 ev, .bool beg, .bool who, .bool dne, .bool stp, .int .i64 hol] 84 (0, 0)), Rw 85 1 P rs.length C (fl rowL rs), RowsI 87 5 tkL rs])]) := by
 have H0 := HS.beginI
 refine enter 82 Try.func46 rfl rfl rfl ?_
 refine g_weak [(0, .pointer (some ⟨g, 0, none⟩)), (1, .int .i64 q), (2, .string s)] ⟨rfl, rfl, rfl, trivial⟩ ?_
 refine w_s ?_
 refine w_a ?_
 refine w_e ?_
 refine g_seq ?_
 refine g_block ?_
 refine w_s ?_
 refine w_m ?_
 refine w_b (v := .bool false) (hb := (b_eqN (r := false) Try.underlying48 rfl)) ?_
 refine w_m ?_
 refine w_g rfl xm ?_
 refine l_of (s_call0 H0 (wt1 rfl rfl rfl rfl rfl) (x_call' rfl rfl cl59) (name_r s _) rfl rfl ?_)
 intro wq1 H2
 refine w_g (v := .bool (!((textS s)))) rfl (x_not (b := (textS s)) rfl rfl) ?_
 refine w_v (v := .bool (!((textS s)))) (x_pick_f rfl rfl rfl rfl) ?_
 refine w_a ?_
 refine w_e ?_
 rcases Bool.eq_false_or_eq_true ((textS s)) with hb3 | hb3
 ·
  refine g_cond_f rfl (neg_of hb3) ?_
  refine w_s ?_
  refine w_m ?_
  refine w_b ?_
  refine w_m ?_
  by_cases hb4 : (q : Int) < 0
  ·
   refine w_n (decide_eq_true hb4) ?_
   refine w_n (decide_eq_true hb4) ?_
   refine w_n (decide_eq_true hb4) ?_
   refine w_n (decide_eq_true hb4) ?_
   refine w_n (decide_eq_true hb4) ?_
   refine w_n (decide_eq_true hb4) ?_
   refine w_n (decide_eq_true hb4) ?_
   refine w_v (v := .bool true) (x_pick_t rfl rfl (decide_eq_true hb4) rfl) ?_
   refine w_a ?_
   refine w_e ?_
   refine g_weak [(0, .pointer (some ⟨g, 0, none⟩)), (1, .int .i64 q), (2, .string s), (18, .bool true)] ⟨rfl, rfl, rfl, rfl, trivial⟩ ?_
   refine g_cond_t rfl rfl ?_
   refine w_s ?_
   refine w_a ?_
   refine w_e ?_
   refine g_ret ?_
   refine g_in_ret ?_
   refine g_then_ret ?_
   refine fin_ret [.tmp 6] [.int .i64 7] rfl ⟨rfl, trivial⟩ ?_
   exact ⟨by rw [if_neg (by rw [hb3]; decide)]; rfl, H2.takes [0, 1, 2, 3] (by decide)⟩
  ·
   refine w_g (decide_eq_false hb4) xm ?_
   refine w_g (decide_eq_false hb4) xm ?_
   refine w_g (decide_eq_false hb4) xn ?_
   refine w_g (decide_eq_false hb4) (xf 0) ?_
   refine w_g (decide_eq_false hb4) (xl H2 0) ?_
   refine w_g (v := .int .i64 ((rs.length : Int))) (decide_eq_false hb4) (x_lenl rfl rfl Try.underlying82) ?_
   refine w_g (decide_eq_false hb4) (x_bin rfl rfl rfl b_gtr) ?_
   refine w_v (v := .bool (decide (((rs.length : Int) : Int) < q))) (x_pick_f rfl rfl (decide_eq_false hb4) rfl) ?_
   refine w_a ?_
   refine w_e ?_
   refine g_weak [(0, .pointer (some ⟨g, 0, none⟩)), (1, .int .i64 q), (2, .string s), (18, .bool (decide (((rs.length : Int) : Int) < q)))] ⟨rfl, rfl, rfl, rfl, trivial⟩ ?_
   by_cases hb5 : ((rs.length : Int) : Int) < q
   ·
    refine g_cond_t rfl (decide_eq_true hb5) ?_
    refine w_s ?_
    refine w_a ?_
    refine w_e ?_
    refine g_ret ?_
    refine g_in_ret ?_
    refine g_then_ret ?_
    refine fin_ret [.tmp 6] [.int .i64 7] rfl ⟨rfl, trivial⟩ ?_
    exact ⟨by rw [if_neg (by rw [hb3]; decide)]; rfl, H2.takes [0, 1, 2, 3] (by decide)⟩
   ·
    refine g_cond_f rfl (decide_eq_false hb5) ?_
    refine g_skip ?_
    refine g_in ?_
    refine g_then ?_
    refine g_seq ?_
    refine w_s ?_
    exfalso; omega
 ·
  refine g_cond_t rfl (neg_of hb3) ?_
  refine w_s ?_
  refine w_a ?_
  refine w_e ?_
  refine g_ret ?_
  refine g_in_ret ?_
  refine g_then_ret ?_
  refine fin_ret [.tmp 6] [.int .i64 1] rfl ⟨rfl, trivial⟩ ?_
  exact ⟨by rw [if_pos hb3]; rfl, H2.takes [0, 1, 2, 3] (by decide)⟩
end Go.Proofs.Ytibdlnjnomikjaa
