import Derived.Test.YtibdlnjnomikjaaTr
set_option linter.unusedSimpArgs false
set_option linter.unusedVariables false
namespace Go.Proofs.Ytibdlnjnomikjaa
open Go.RowKit

theorem cl37 : callable Try.prog 37 = true := by kernel_rfl
theorem sz71 : szO Try.prog 71 = some 5 := by kernel_rfl
def frontL (y : Nat) (l : List Nat) : List Nat := if y ∈ l then y :: l.erase y else l
def frontR (y : Nat) (r : Ro Nat) : Ro Nat := { r with l := frontL y r.l }
def frontN (y j : Nat) (rows : Rws) : Rws := (rows.take j).map (frontR y) ++ rows.drop j
theorem frontL_perm (y : Nat) (l : List Nat) : (frontL y l).Perm l := by
  unfold frontL
  split
  · rename_i h; exact (List.perm_cons_erase h).symm
  · exact .refl _
theorem frontL_len (y : Nat) (l : List Nat) : (frontL y l).length = l.length := (frontL_perm y l).length_eq
theorem frontN_at {y j : Nat} {rows : Rws} {r : Ro Nat} (h : rows[j]? = some r) : (frontN y j rows)[j]? = some r := by
  have hj := (List.getElem?_eq_some_iff.1 h).1
  unfold frontN
  rw [List.getElem?_append_right (by rw [List.length_map, List.length_take]; omega), List.length_map, List.length_take, Nat.min_eq_left (Nat.le_of_lt hj), Nat.sub_self, List.getElem?_drop, Nat.add_zero]
  exact h
theorem frontN_next {y j : Nat} {rows : Rws} {r : Ro Nat} (h : rows[j]? = some r) : (frontN y j rows).set j (frontR y r) = frontN y (j + 1) rows := by
  have hj := (List.getElem?_eq_some_iff.1 h).1
  have e1 : rows.drop j = r :: rows.drop (j + 1) := by
    rw [List.drop_eq_getElem_cons hj, (List.getElem?_eq_some_iff.1 h).2]
  unfold frontN
  rw [e1, take_snoc h, List.map_append, List.map_singleton]
  rw [List.set_append_right _ _ (by rw [List.length_map, List.length_take]; omega), List.length_map, List.length_take, Nat.min_eq_left (Nat.le_of_lt hj), Nat.sub_self]
  simp
theorem set_self {α : Type} {l : List α} {j : Nat} {r : α} (h : l[j]? = some r) : l.set j r = l := by
  apply List.ext_getElem?
  intro i
  by_cases e : j = i
  · subst e; rw [List.getElem?_set_self (List.getElem?_eq_some_iff.1 h).1, h]
  · rw [List.getElem?_set_ne e]
theorem frontN_skip {y j : Nat} {rows : Rws} {r : Ro Nat} (h : rows[j]? = some r) (hn : y ∉ r.l) : frontN y (j + 1) rows = frontN y j rows := by
  rw [← frontN_next h]
  refine set_self ?_
  rw [frontN_at h]
  unfold frontR frontL
  rw [if_neg hn]
theorem frontN_all (y : Nat) (rows : Rws) : frontN y rows.length rows = rows.map (frontR y) := by
  unfold frontN
  rw [List.take_length, List.drop_length, List.append_nil]
theorem frontN_len (y j : Nat) (rows : Rws) : (frontN y j rows).length = rows.length := by
  unfold frontN
  rw [List.length_append, List.length_map, List.length_take, List.length_drop]; omega
theorem roV_front (y : Nat) (r : Ro Nat) : roV (frontR y r) = roV r := by
  show Value.slice r.p (frontL y r.l).length r.c = _
  rw [frontL_len]; rfl
theorem rosV_front (y : Nat) (rows : Rws) : rosV (rows.map (frontR y)) = rosV rows := by
  unfold rosV
  rw [List.map_map]
  exact List.map_congr_left fun r _ => roV_front y r
theorem adr_front (y : Nat) : ∀ rows : Rws, (adr (rows.map (frontR y))).Perm (adr rows)
  | [] => .refl _
  | r :: rows => by
    show (frontL y r.l ++ adr (rows.map (frontR y))).Perm (r.l ++ adr rows)
    exact (frontL_perm y r.l).append (adr_front y rows)
theorem ptL_map (l : List Nat) : l.flatMap ptL = l.map fun x => Value.pointer (some ⟨x, 0, none⟩) := by
  induction l with
  | nil => rfl
  | cons x l ih => rw [List.flatMap_cons, ih]; rfl
theorem front_cells {y i : Nat} {l : List Nat} (hi : l[i]? = some y) (hni : y ∉ l.take i) :
    ((l.flatMap ptL).take 1 ++ (l.flatMap ptL).take i ++ (l.flatMap ptL).drop (i + 1)).take (0 * 1) ++ (#[Value.pointer (some ⟨y, 0, none⟩)] : Array Value).toList ++ ((l.flatMap ptL).take 1 ++ (l.flatMap ptL).take i ++ (l.flatMap ptL).drop (i + 1)).drop (0 * 1 + 1) = (frontL y l).flatMap ptL := by
  have hlt := (List.getElem?_eq_some_iff.1 hi).1
  have hmem : y ∈ l := List.mem_of_getElem? hi
  have he : l = l.take i ++ y :: l.drop (i + 1) := by
    conv => lhs; rw [← List.take_append_drop i l]
    rw [List.drop_eq_getElem_cons hlt, (List.getElem?_eq_some_iff.1 hi).2]
  have hf : frontL y l = y :: (l.take i ++ l.drop (i + 1)) := by
    unfold frontL
    rw [if_pos hmem]
    congr 1
    conv => lhs; rw [he]
    rw [List.erase_append_right _ hni, List.erase_cons_head]
  rw [hf]
  simp only [ptL_map]
  have h1 : ((l.map fun x => Value.pointer (some ⟨x, 0, none⟩)).take 1).length = 1 := by
    rw [List.length_take, List.length_map]; omega
  rw [Nat.zero_mul, List.take_zero, List.nil_append, List.append_assoc, Nat.zero_add]
  rw [List.drop_append_of_le_length (by omega), List.drop_of_length_le (by omega), List.nil_append]
  simp [List.map_take, List.map_drop]
theorem take_not {y k x : Nat} {l : List Nat} (hk : l[k]? = some x) (h : y ∉ l.take k) (hx : ¬ y = x) : y ∉ l.take (k + 1) := by
  rw [take_snoc hk]
  intro hm
  rcases List.mem_append.1 hm with h1 | h1
  · exact h h1
  · rw [List.mem_singleton] at h1; exact hx h1
set_option maxRecDepth 20000 in
set_option maxHeartbeats 4000000 in
set_option maxRecDepth 20000 in
set_option maxHeartbeats 4000000 in
theorem index_s {rows : Rws} {r : Ro Nat} {j y : Nat} {gs : List Nat} {tk : Nat → Tk} (hrow : rows[j]? = some r) (hr2 : r.l.length ≤ 1000) (hgs : ∀ x ∈ r.l, x ∈ gs) (hy : y ∈ gs)  (w : World) (HS : S w [RowsI 59 1 ptL rows, Fam 71 Tk.cells gs tk]) : Calls Try.prog 37 #[.slice r.p r.l.length r.c, .pointer (some ⟨y, 0, none⟩)] w fun e w' => (y ∉ r.l ∧ e = .returned (.int .i64 (-1)) ∧ S w' ([RowsI 59 1 ptL rows, Fam 71 Tk.cells gs tk] ++ [Old w (fps [RowsI 59 1 ptL rows, Fam 71 Tk.cells gs tk])])) ∨ (∃ i : Nat, r.l[i]? = some y ∧ y ∉ r.l.take i ∧ e = .returned (.int .i64 (i : Int)) ∧ S w' ([RowsI 59 1 ptL rows, Fam 71 Tk.cells gs tk] ++ [Old w (fps [RowsI 59 1 ptL rows, Fam 71 Tk.cells gs tk])])) := by
  have H00 := HS.beginI
  have H0 : S w ([RowsI 59 1 ptL rows, Fam 71 Tk.cells gs tk, Old w (fps [RowsI 59 1 ptL rows, Fam 71 Tk.cells gs tk])]) := H00
  refine enter 19 Try.func37 rfl rfl rfl ?_
  refine g_weak [(0, .slice r.p r.l.length r.c), (1, .pointer (some ⟨y, 0, none⟩))] ⟨rfl, rfl, trivial⟩ ?_
  refine g_seq ?_
  refine g_region ?_
  refine l_of (s_val (v := .int .i64 0) (wt0 rfl) rfl rfl (x_assign rfl rfl) ?_)
  refine g_nil ?_
  refine g_then ?_
  refine g_seq ?_
  refine g_seq ?_
  refine g_region ?_
  refine l_of (s_val (v := .slice r.p r.l.length r.c) (wt0 rfl) rfl rfl (x_move rfl rfl) ?_)
  refine l_of (s_val (v := .int .i64 ((r.l.length : Int))) (wt0 rfl) rfl rfl (x_lenl rfl rfl Try.underlying68) ?_)
  refine l_of (s_val (v := .int .i64 0) (wt0 rfl) rfl rfl (x_move rfl rfl) ?_)
  refine g_nil ?_
  refine g_then ?_
  refine g_block ?_
  refine g_loop (ι := Nat) (fun k => [(0, .slice r.p r.l.length r.c), (1, .pointer (some ⟨y, 0, none⟩)), (7, .int .i64 ((r.l.length : Int))), (8, .int .i64 ((k : Int)))]) (fun k wx => (k ≤ r.l.length) ∧ (y ∉ r.l.take k) ∧ S wx [RowsI 59 1 ptL rows, Fam 71 Tk.cells gs tk, Old w (fps [RowsI 59 1 ptL rows, Fam 71 Tk.cells gs tk])]) (fun k => r.l.length - k) (0) ⟨rfl, rfl, rfl, rfl, trivial⟩ ⟨Nat.zero_le _, by simp, H0⟩ ?_
  rintro k wq1 ⟨hk, hni, H2⟩
  replace H2 : S wq1 [RowsI 59 1 ptL rows, Fam 71 Tk.cells gs tk, Old w (fps [RowsI 59 1 ptL rows, Fam 71 Tk.cells gs tk])] := H2
  refine g_weak [(0, .slice r.p r.l.length r.c), (1, .pointer (some ⟨y, 0, none⟩)), (7, .int .i64 ((r.l.length : Int))), (8, .int .i64 ((k : Int)))] ⟨rfl, rfl, rfl, rfl, trivial⟩ ?_
  refine g_seq ?_
  refine g_region ?_
  refine l_of (s_val (v := .bool (decide (((k : Int) : Int) < (r.l.length : Int)))) (wt0 rfl) rfl rfl (x_bin rfl rfl rfl b_lss) ?_)
  refine g_nil ?_
  refine g_then ?_
  refine g_seq ?_
  by_cases hb3 : ((k : Int) : Int) < (r.l.length : Int)
  · skip
    obtain ⟨x, hx⟩ : ∃ x, r.l[k]? = some x := ⟨_, List.getElem?_eq_getElem (by omega)⟩
    refine g_cond_t rfl (decide_eq_true hb3) ?_
    refine g_skip ?_
    refine g_then ?_
    refine g_seq ?_
    refine g_block ?_
    refine g_seq ?_
    refine g_region ?_
    refine l_of (s_val (v := .int .i64 ((k : Int))) (wt0 rfl) rfl rfl (x_move rfl rfl) ?_)
    refine l_of (s_val (v := .int .i64 ((k : Int))) (wt0 rfl) rfl rfl (x_assign rfl rfl) ?_)
    refine g_nil ?_
    refine g_then ?_
    refine g_seq ?_
    refine g_region ?_
    refine l_of (s_val (v := .pointer (some ⟨y, 0, none⟩)) (wt0 rfl) rfl rfl (x_move rfl rfl) ?_)
    refine l_of (s_val (v := .slice r.p r.l.length r.c) (wt0 rfl) rfl rfl (x_move rfl rfl) ?_)
    refine l_of (s_val (v := .int .i64 ((k : Int))) (wt0 rfl) rfl rfl (x_move rfl rfl) ?_)
    refine l_of (s_val (v := .pointer ((r.p).map fun q => q.add (k * 1))) (wt0 rfl) rfl rfl (x_idxR k ((rows_read (H2.at (k := 0) rfl) hrow)) rfl rfl rfl Try.underlying68 sz59 (by omega)) ?_)
    refine l_of (s_val (v := .pointer (some ⟨x, 0, none⟩)) (wt0 rfl) rfl rfl (x_loadR1 k ((rows_read (H2.at (k := 0) rfl) hrow)) (by omega) rfl rfl Try.underlying59 rfl (ptL_at hx)) ?_)
    refine l_of (s_val (v := .bool (decide (y = x))) (wt0 rfl) rfl rfl (x_bin rfl rfl rfl (b_eqPtr Try.underlying59 sz71 (by decide) ((H2.fam (k := 1) rfl).2 y hy) ((H2.fam (k := 1) rfl).2 x (hgs x (List.mem_of_getElem? hx))))) ?_)
    refine g_nil ?_
    refine g_then ?_
    by_cases hb4 : y = x
    · skip
      refine g_cond_t rfl (decide_eq_true hb4) ?_
      refine g_seq ?_
      refine g_region ?_
      refine l_of (s_val (v := .int .i64 ((k : Int))) (wt0 rfl) rfl rfl (x_move rfl rfl) ?_)
      refine l_of (s_val (v := .int .i64 ((k : Int))) (wt0 rfl) rfl rfl (x_assign rfl rfl) ?_)
      refine g_nil ?_
      refine g_then ?_
      refine g_weak [(4, .int .i64 ((k : Int)))] ⟨rfl, trivial⟩ ?_
      refine g_ret ?_
      refine g_in_ret ?_
      refine g_then_ret ?_
      refine g_then_ret ?_
      refine g_in_ret ?_
      refine g_then_ret ?_
      refine fin_ret [.tmp 4] [.int .i64 ((k : Int))] rfl ⟨rfl, trivial⟩ ?_
      exact .inr ⟨k, by rw [hb4]; exact hx, hni, rfl, H2.takes [0, 1, 2] (by decide)⟩
    · skip
      refine g_cond_f rfl (decide_eq_false hb4) ?_
      refine g_skip ?_
      refine g_in ?_
      refine g_then ?_
      refine g_region ?_
      refine l_of (s_val (v := .int .i64 ((k : Int) + 1)) (wt0 rfl) rfl rfl (x_bin rfl rfl rfl (b_add (w64 (by omega)))) ?_)
      refine l_of (s_val (v := .int .i64 ((k : Int) + 1)) (wt0 rfl) rfl rfl (x_move rfl rfl) ?_)
      refine g_nil ?_
      refine g_then ?_
      refine g_round (i := (k)) (k + 1) ?_ ?_ ?_
      · exact ⟨rfl, rfl, rfl, rfl, trivial⟩
      · exact ⟨by omega, take_not hx hni (by assumption), H2⟩
      · (try dsimp only); omega
  · skip
    refine g_cond_f rfl (decide_eq_false hb3) ?_
    refine g_exit ?_
    refine g_then_exit ?_
    refine g_then_exit ?_
    refine g_in_hit ?_
    refine g_then ?_
    refine g_seq ?_
    refine g_region ?_
    refine l_of (s_val (v := .int .i64 (-1)) (wt0 rfl) rfl rfl (x_assign rfl rfl) ?_)
    refine g_nil ?_
    refine g_then ?_
    refine g_ret ?_
    refine fin_ret [.tmp 4] [.int .i64 (-1)] rfl ⟨rfl, trivial⟩ ?_
    have hk2 : k = r.l.length := by omega
    rw [hk2, List.take_length] at hni
    exact .inl ⟨hni, rfl, H2.takes [0, 1, 2] (by decide)⟩
theorem ptL_one (l : List Nat) : (l.flatMap ptL).all (·.oneCell') = true := by
  rw [ptL_map, List.all_eq_true]; intro v hv
  obtain ⟨x, _, rfl⟩ := List.mem_map.1 hv; rfl
set_option maxRecDepth 20000 in
set_option maxHeartbeats 4000000 in
set_option maxRecDepth 20000 in
set_option maxHeartbeats 4000000 in
theorem answer_s {g nr C : Nat} {P : Option Addr} {mp : Value} {ev now til n iv : Int} {begun whole dn stopped : Bool} {rows : Rws} {tk : Nat → Tk} (hnr : nr = rows.length) (hnr2 : nr ≤ 1000) (hrl : ∀ r ∈ rows, r.l.length ≤ 1000) {y : Nat} (hy : y ∈ adr rows) (h2 : 0 ≤ now)  (w : World) (HS : S w [Ob g (.cells #[.pointer (some ⟨y, 0, none⟩), .int .i64 ev, .slice P nr C, mp, .int .i64 now, .int .i64 til, .bool begun, .bool whole, .bool dn, .bool stopped] 64 (0, 0)), Rw 68 1 P nr C (rosV rows), RowsI 59 1 ptL rows, Fam 71 Tk.cells (adr rows) tk]) : Calls Try.prog 15 #[.pointer (some ⟨g, 0, none⟩), .int .i64 n, .int .i64 iv] w fun e w' => ((iv < 1 ∨ 100000000 < iv) ∧ e = .returned (.int .i64 7) ∧ S w' ([Ob g (.cells #[.pointer (some ⟨y, 0, none⟩), .int .i64 ev, .slice P nr C, mp, .int .i64 now, .int .i64 til, .bool begun, .bool whole, .bool dn, .bool stopped] 64 (0, 0)), Rw 68 1 P nr C (rosV rows), RowsI 59 1 ptL rows, Fam 71 Tk.cells (adr rows) tk] ++ [Old w (fps [Ob g (.cells #[.pointer (some ⟨y, 0, none⟩), .int .i64 ev, .slice P nr C, mp, .int .i64 now, .int .i64 til, .bool begun, .bool whole, .bool dn, .bool stopped] 64 (0, 0)), Rw 68 1 P nr C (rosV rows), RowsI 59 1 ptL rows, Fam 71 Tk.cells (adr rows) tk])])) ∨ (1 ≤ iv ∧ iv ≤ 100000000 ∧ tellS now n ≠ 0 ∧ e = .returned (.int .i64 (tellS now n)) ∧ S w' ([Ob g (.cells #[.pointer (some ⟨y, 0, none⟩), .int .i64 ev, .slice P nr C, mp, .int .i64 now, .int .i64 til, .bool begun, .bool whole, .bool dn, .bool stopped] 64 (0, 0)), Rw 68 1 P nr C (rosV rows), RowsI 59 1 ptL rows, Fam 71 Tk.cells (adr rows) tk] ++ [Old w (fps [Ob g (.cells #[.pointer (some ⟨y, 0, none⟩), .int .i64 ev, .slice P nr C, mp, .int .i64 now, .int .i64 til, .bool begun, .bool whole, .bool dn, .bool stopped] 64 (0, 0)), Rw 68 1 P nr C (rosV rows), RowsI 59 1 ptL rows, Fam 71 Tk.cells (adr rows) tk])])) ∨ (1 ≤ iv ∧ iv ≤ 100000000 ∧ tellS now n = 0 ∧ ev = 2 ∧ e = .returned (.int .i64 0) ∧ S w' ([Ob g (.cells #[.pointer none, .int .i64 0, .slice P nr C, mp, .int .i64 n, .int .i64 til, .bool begun, .bool whole, .bool dn, .bool stopped] 64 (0, 0)), Rw 68 1 P nr C (rosV (rows.map (frontR y))), RowsI 59 1 ptL (rows.map (frontR y)), Fam 71 Tk.cells (adr (rows.map (frontR y))) (upd tk y ⟨(tk y).name, 0, 0, (tk y).ans, true⟩)] ++ [Old w (fps [Ob g (.cells #[.pointer (some ⟨y, 0, none⟩), .int .i64 ev, .slice P nr C, mp, .int .i64 now, .int .i64 til, .bool begun, .bool whole, .bool dn, .bool stopped] 64 (0, 0)), Rw 68 1 P nr C (rosV rows), RowsI 59 1 ptL rows, Fam 71 Tk.cells (adr rows) tk])])) ∨ (1 ≤ iv ∧ iv ≤ 100000000 ∧ tellS now n = 0 ∧ ev ≠ 2 ∧ e = .returned (.int .i64 0) ∧ S w' ([Ob g (.cells #[.pointer none, .int .i64 0, .slice P nr C, mp, .int .i64 n, .int .i64 ((n + iv)), .bool ((begun || decide (ev = 1))), .bool whole, .bool ((dn && !decide (ev = 3))), .bool stopped] 64 (0, 0)), Rw 68 1 P nr C (rosV (rows.map (frontR y))), RowsI 59 1 ptL (rows.map (frontR y)), Fam 71 Tk.cells (adr (rows.map (frontR y))) (upd tk y ⟨(tk y).name, 0, 0, true, false⟩)] ++ [Old w (fps [Ob g (.cells #[.pointer (some ⟨y, 0, none⟩), .int .i64 ev, .slice P nr C, mp, .int .i64 now, .int .i64 til, .bool begun, .bool whole, .bool dn, .bool stopped] 64 (0, 0)), Rw 68 1 P nr C (rosV rows), RowsI 59 1 ptL rows, Fam 71 Tk.cells (adr rows) tk])])) := by
  have H00 := HS.beginI
  have H0 : S w ([Ob g (.cells #[.pointer (some ⟨y, 0, none⟩), .int .i64 ev, .slice P nr C, mp, .int .i64 now, .int .i64 til, .bool begun, .bool whole, .bool dn, .bool stopped] 64 (0, 0)), Rw 68 1 P nr C (rosV rows), RowsI 59 1 ptL rows, Fam 71 Tk.cells (adr rows) tk, Old w (fps [Ob g (.cells #[.pointer (some ⟨y, 0, none⟩), .int .i64 ev, .slice P nr C, mp, .int .i64 now, .int .i64 til, .bool begun, .bool whole, .bool dn, .bool stopped] 64 (0, 0)), Rw 68 1 P nr C (rosV rows), RowsI 59 1 ptL rows, Fam 71 Tk.cells (adr rows) tk])]) := H00
  refine enter 105 Try.func15 rfl rfl rfl ?_
  refine g_weak [(0, .pointer (some ⟨g, 0, none⟩)), (1, .int .i64 n), (2, .int .i64 iv)] ⟨rfl, rfl, rfl, trivial⟩ ?_
  refine g_seq ?_
  refine g_region ?_
  refine l_of (s_val (v := .int .i64 0) (wt0 rfl) rfl rfl (x_assign rfl rfl) ?_)
  refine g_nil ?_
  refine g_then ?_
  refine g_seq ?_
  refine g_block ?_
  refine g_seq ?_
  refine g_region ?_
  refine l_of (s_val (v := .pointer (some ⟨g, 0, none⟩)) (wt0 rfl) rfl rfl (x_move rfl rfl) ?_)
  refine l_of (s_val (v := .bool false) (wt0 rfl) rfl rfl (x_bin rfl rfl rfl (b_eqN (r := false) Try.underlying26 rfl)) ?_)
  refine l_of (s_val (v := .bool false) (wt0 rfl) rfl rfl (x_assign rfl rfl) ?_)
  refine g_nil ?_
  refine g_then ?_
  refine g_cond_f rfl rfl ?_
  refine g_seq ?_
  refine g_region ?_
  refine l_of (s_val (v := .int .i64 iv) (wt0 rfl) rfl rfl (x_move rfl rfl) ?_)
  refine l_of (s_val (v := .bool (decide ((iv : Int) < 1))) (wt0 rfl) rfl rfl (x_bin rfl rfl rfl b_lss) ?_)
  refine l_of (s_val (v := .bool (decide ((iv : Int) < 1))) (wt0 rfl) rfl rfl (x_move rfl rfl) ?_)
  by_cases hb1 : (iv : Int) < 1
  · skip
    refine l_of (s_not (wn1 rfl rfl rfl rfl (decide_eq_true hb1)) rfl rfl ?_)
    refine l_of (s_not (wn1 rfl rfl rfl rfl (decide_eq_true hb1)) rfl rfl ?_)
    refine l_of (s_val (v := .bool true) (wt0 rfl) rfl rfl (x_pick_t rfl rfl (decide_eq_true hb1) rfl) ?_)
    refine l_of (s_val (v := .bool true) (wt0 rfl) rfl rfl (x_assign rfl rfl) ?_)
    refine g_nil ?_
    refine g_then ?_
    refine g_cond_t rfl rfl ?_
    refine g_seq ?_
    refine g_region ?_
    refine l_of (s_val (v := .int .i64 7) (wt0 rfl) rfl rfl (x_assign rfl rfl) ?_)
    refine g_nil ?_
    refine g_then ?_
    refine g_weak [(6, .int .i64 7)] ⟨rfl, trivial⟩ ?_
    refine g_ret ?_
    refine g_in_ret ?_
    refine g_then_ret ?_
    refine fin_ret [.tmp 6] [.int .i64 7] rfl ⟨rfl, trivial⟩ ?_
    exact .inl ⟨by omega, rfl, H0.takes [0, 1, 2, 3, 4] (by decide)⟩
  · skip
    refine l_of (s_val (v := .int .i64 iv) (wt1 rfl rfl rfl rfl (decide_eq_false hb1)) rfl rfl (x_move rfl rfl) ?_)
    refine l_of (s_val (v := .bool (decide ((100000000 : Int) < iv))) (wt1 rfl rfl rfl rfl (decide_eq_false hb1)) rfl rfl (x_bin rfl rfl rfl b_gtr) ?_)
    refine l_of (s_val (v := .bool (decide ((100000000 : Int) < iv))) (wt0 rfl) rfl rfl (x_pick_f rfl rfl (decide_eq_false hb1) rfl) ?_)
    refine l_of (s_val (v := .bool (decide ((100000000 : Int) < iv))) (wt0 rfl) rfl rfl (x_assign rfl rfl) ?_)
    refine g_nil ?_
    refine g_then ?_
    by_cases hb2 : (100000000 : Int) < iv
    · skip
      refine g_cond_t rfl (decide_eq_true hb2) ?_
      refine g_seq ?_
      refine g_region ?_
      refine l_of (s_val (v := .int .i64 7) (wt0 rfl) rfl rfl (x_assign rfl rfl) ?_)
      refine g_nil ?_
      refine g_then ?_
      refine g_weak [(6, .int .i64 7)] ⟨rfl, trivial⟩ ?_
      refine g_ret ?_
      refine g_in_ret ?_
      refine g_then_ret ?_
      refine fin_ret [.tmp 6] [.int .i64 7] rfl ⟨rfl, trivial⟩ ?_
      exact .inl ⟨by omega, rfl, H0.takes [0, 1, 2, 3, 4] (by decide)⟩
    · skip
      refine g_cond_f rfl (decide_eq_false hb2) ?_
      refine g_skip ?_
      refine g_in ?_
      refine g_then ?_
      refine g_seq ?_
      refine g_region ?_
      refine l_of (s_val (v := .pointer (some ⟨g, 0, none⟩)) (wt0 rfl) rfl rfl (x_move rfl rfl) ?_)
      refine l_of (s_val (v := .int .i64 n) (wt0 rfl) rfl rfl (x_move rfl rfl) ?_)
      have H3 := S.famOut (H0.takes [3, 0, 1, 2, 4] (by decide)) hy
      replace H3 : S w [Ob y (.cells #[.string ((tk y).name), .int .i64 ((tk y).failed), .int .i64 ((tk y).after), .bool ((tk y).ans), .bool ((tk y).told)] 71 (0, 0)), Fam 71 Tk.cells ((adr rows).erase y) tk, Ob g (.cells #[.pointer (some ⟨y, 0, none⟩), .int .i64 ev, .slice P nr C, mp, .int .i64 now, .int .i64 til, .bool begun, .bool whole, .bool dn, .bool stopped] 64 (0, 0)), Rw 68 1 P nr C (rosV rows), RowsI 59 1 ptL rows, Old w (fps [Ob g (.cells #[.pointer (some ⟨y, 0, none⟩), .int .i64 ev, .slice P nr C, mp, .int .i64 now, .int .i64 til, .bool begun, .bool whole, .bool dn, .bool stopped] 64 (0, 0)), Rw 68 1 P nr C (rosV rows), RowsI 59 1 ptL rows, Fam 71 Tk.cells (adr rows) tk])] := H3
      refine l_of (s_call (wt0 rfl) (x_call' rfl rfl cl35) (ended_s (t := (tk y)) _ (H3.takes [2, 0] (by decide))) ?_)
      rintro ee6 wq4 hor7
      rcases hor7 with ⟨hl1, rfl, H5⟩ | ⟨hl0, rfl, H5⟩
      · skip
        replace H5 : S wq4 [Ob g (.cells #[.pointer (some ⟨y, 0, none⟩), .int .i64 ev, .slice P nr C, mp, .int .i64 now, .int .i64 til, .bool begun, .bool whole, .bool dn, .bool stopped] 64 (0, 0)), Ob y (.cells #[.string ((tk y).name), .int .i64 ((tk y).failed), .int .i64 ((tk y).after), .bool ((tk y).ans), .bool ((tk y).told)] 71 (0, 0)), Fam 71 Tk.cells ((adr rows).erase y) tk, Rw 68 1 P nr C (rosV rows), RowsI 59 1 ptL rows, Old w (fps [Ob g (.cells #[.pointer (some ⟨y, 0, none⟩), .int .i64 ev, .slice P nr C, mp, .int .i64 now, .int .i64 til, .bool begun, .bool whole, .bool dn, .bool stopped] 64 (0, 0)), Rw 68 1 P nr C (rosV rows), RowsI 59 1 ptL rows, Fam 71 Tk.cells (adr rows) tk])] := H3.absorbI (new := [Ob g (.cells #[.pointer (some ⟨y, 0, none⟩), .int .i64 ev, .slice P nr C, mp, .int .i64 now, .int .i64 til, .bool begun, .bool whole, .bool dn, .bool stopped] 64 (0, 0)), Ob y (.cells #[.string ((tk y).name), .int .i64 ((tk y).failed), .int .i64 ((tk y).after), .bool ((tk y).ans), .bool ((tk y).told)] 71 (0, 0))]) [2, 0] H5
        refine b_ret rfl rfl ?_
        refine l_of (s_val (v := .tuple #[.agg #[.pointer none, .int .i64 0], .int .i64 ((tellS now n))]) (wt0 rfl) rfl rfl (x_move rfl rfl) ?_)
        refine l_of (s_val (v := .agg #[.pointer none, .int .i64 0]) (wt0 rfl) rfl rfl (x_extract rfl rfl rfl) ?_)
        refine l_of (s_val (v := .int .i64 ((tellS now n))) (wt0 rfl) rfl rfl (x_extract rfl rfl rfl) ?_)
        refine l_of (s_alloc H5 (wt0 rfl) rfl rfl rfl ze61 ?_)
        intro g8 wq9 H10
        refine l_of (s_store H10 0 (wt0 rfl) rfl rfl rfl rfl rfl sz61 rfl rfl (cs' := #[.pointer none, .int .i64 0]) rfl ?_)
        intro wq11 H12
        refine l_of (s_val (v := .int .i64 ((tellS now n))) (wt0 rfl) rfl rfl (x_assign rfl rfl) ?_)
        refine g_nil ?_
        refine g_then ?_
        refine g_weak [(0, .pointer (some ⟨g, 0, none⟩)), (1, .int .i64 n), (2, .int .i64 iv), (7, .pointer (some ⟨g8, 0, none⟩)), (8, .int .i64 ((tellS now n)))] ⟨rfl, rfl, rfl, rfl, rfl, trivial⟩ ?_
        refine g_seq ?_
        refine g_seq ?_
        refine g_region ?_
        refine l_of (s_val (v := .int .i64 ((tellS now n))) (wt0 rfl) rfl rfl (x_move rfl rfl) ?_)
        refine l_of (s_val (v := .bool (!decide (((tellS now n) : Int) = 0))) (wt0 rfl) rfl rfl (x_bin rfl rfl rfl b_neq) ?_)
        refine g_nil ?_
        refine g_then ?_
        refine g_cond_t rfl (nt hl1) ?_
        refine g_seq ?_
        refine g_region ?_
        refine l_of (s_val (v := .int .i64 ((tellS now n))) (wt0 rfl) rfl rfl (x_move rfl rfl) ?_)
        refine l_of (s_val (v := .int .i64 ((tellS now n))) (wt0 rfl) rfl rfl (x_assign rfl rfl) ?_)
        refine g_nil ?_
        refine g_then ?_
        refine g_ret ?_
        refine g_then_ret ?_
        refine fin_ret [.tmp 6] [.int .i64 ((tellS now n))] rfl ⟨rfl, trivial⟩ ?_
        have H13 := S.famIn0 (e := 71) (enc := Tk.cells) (gs := adr rows) (tk := tk) (x := y) (H12.takes [2, 3, 0, 1, 4, 5, 6] (by decide)) hy
        replace H13 : S wq11 [Fam 71 Tk.cells (adr rows) tk, Ob g8 (.cells #[.pointer none, .int .i64 0] 61 (0, 0)), Ob g (.cells #[.pointer (some ⟨y, 0, none⟩), .int .i64 ev, .slice P nr C, mp, .int .i64 now, .int .i64 til, .bool begun, .bool whole, .bool dn, .bool stopped] 64 (0, 0)), Rw 68 1 P nr C (rosV rows), RowsI 59 1 ptL rows, Old w (fps [Ob g (.cells #[.pointer (some ⟨y, 0, none⟩), .int .i64 ev, .slice P nr C, mp, .int .i64 now, .int .i64 til, .bool begun, .bool whole, .bool dn, .bool stopped] 64 (0, 0)), Rw 68 1 P nr C (rosV rows), RowsI 59 1 ptL rows, Fam 71 Tk.cells (adr rows) tk])] := H13
        exact .inr (.inl ⟨by omega, by omega, hl1, rfl, H13.takes [2, 3, 4, 0, 5] (by decide)⟩)
      · skip
        replace H5 : S wq4 [Ob g (.cells #[.pointer none, .int .i64 0, .slice P nr C, mp, .int .i64 n, .int .i64 til, .bool begun, .bool whole, .bool dn, .bool stopped] 64 (0, 0)), Ob y (.cells #[.string ((tk y).name), .int .i64 ((tk y).failed), .int .i64 ((tk y).after), .bool ((tk y).ans), .bool (((tk y).told || decide (ev = 2)))] 71 (0, 0)), Fam 71 Tk.cells ((adr rows).erase y) tk, Rw 68 1 P nr C (rosV rows), RowsI 59 1 ptL rows, Old w (fps [Ob g (.cells #[.pointer (some ⟨y, 0, none⟩), .int .i64 ev, .slice P nr C, mp, .int .i64 now, .int .i64 til, .bool begun, .bool whole, .bool dn, .bool stopped] 64 (0, 0)), Rw 68 1 P nr C (rosV rows), RowsI 59 1 ptL rows, Fam 71 Tk.cells (adr rows) tk])] := H3.absorbI (new := [Ob g (.cells #[.pointer none, .int .i64 0, .slice P nr C, mp, .int .i64 n, .int .i64 til, .bool begun, .bool whole, .bool dn, .bool stopped] 64 (0, 0)), Ob y (.cells #[.string ((tk y).name), .int .i64 ((tk y).failed), .int .i64 ((tk y).after), .bool ((tk y).ans), .bool (((tk y).told || decide (ev = 2)))] 71 (0, 0))]) [2, 0] H5
        refine b_ret rfl rfl ?_
        refine l_of (s_val (v := .tuple #[.agg #[.pointer (some ⟨y, 0, none⟩), .int .i64 ev], .int .i64 0]) (wt0 rfl) rfl rfl (x_move rfl rfl) ?_)
        refine l_of (s_val (v := .agg #[.pointer (some ⟨y, 0, none⟩), .int .i64 ev]) (wt0 rfl) rfl rfl (x_extract rfl rfl rfl) ?_)
        refine l_of (s_val (v := .int .i64 0) (wt0 rfl) rfl rfl (x_extract rfl rfl rfl) ?_)
        refine l_of (s_alloc H5 (wt0 rfl) rfl rfl rfl ze61 ?_)
        intro g14 wq15 H16
        refine l_of (s_store H16 0 (wt0 rfl) rfl rfl rfl rfl rfl sz61 rfl rfl (cs' := #[.pointer (some ⟨y, 0, none⟩), .int .i64 ev]) rfl ?_)
        intro wq17 H18
        refine l_of (s_val (v := .int .i64 0) (wt0 rfl) rfl rfl (x_assign rfl rfl) ?_)
        refine g_nil ?_
        refine g_then ?_
        refine g_weak [(0, .pointer (some ⟨g, 0, none⟩)), (1, .int .i64 n), (2, .int .i64 iv), (7, .pointer (some ⟨g14, 0, none⟩)), (8, .int .i64 0)] ⟨rfl, rfl, rfl, rfl, rfl, trivial⟩ ?_
        refine g_seq ?_
        refine g_seq ?_
        refine g_region ?_
        refine l_of (s_val (v := .int .i64 0) (wt0 rfl) rfl rfl (x_move rfl rfl) ?_)
        refine l_of (s_val (v := .bool (!decide ((0 : Int) = 0))) (wt0 rfl) rfl rfl (x_bin rfl rfl rfl b_neq) ?_)
        refine g_nil ?_
        refine g_then ?_
        refine g_cond_f rfl (nf rfl) ?_
        refine g_skip ?_
        refine g_then ?_
        refine g_seq ?_
        refine g_region ?_
        refine l_of (s_val (v := .pointer (some ⟨g14, 0, none⟩)) (wt0 rfl) rfl rfl (x_fieldAddr rfl rfl fo61_0 rfl) ?_)
        refine l_of (s_val (v := .pointer (some ⟨y, 0, none⟩)) (wt0 rfl) rfl rfl (x_load1 H18 0 rfl rfl Try.underlying59 rfl rfl rfl) ?_)
        refine l_of (s_val (v := .pointer (some ⟨y, 0, none⟩)) (wt0 rfl) rfl rfl (x_assign rfl rfl) ?_)
        refine g_nil ?_
        refine g_then ?_
        refine g_seq ?_
        refine g_region ?_
        refine l_of (s_val (v := .pointer (some ⟨y, 0, none⟩)) (wt0 rfl) rfl rfl (x_move rfl rfl) ?_)
        refine l_of (s_val (v := .pointer (some ⟨y, 0, none⟩)) (wt0 rfl) rfl rfl (x_move rfl rfl) ?_)
        refine l_of (s_val (v := .pointer (some ⟨y, 0, none⟩)) (wt0 rfl) rfl rfl (x_nilCheck rfl rfl) ?_)
        refine l_of (s_val (v := .pointer (some ⟨y, 1, none⟩)) (wt0 rfl) rfl rfl (x_fieldAddr rfl rfl fo71_1 rfl) ?_)
        refine l_of (s_store H18 2 (wt0 rfl) rfl rfl rfl rfl rfl sz3 rfl rfl (cs' := #[.string ((tk y).name), .int .i64 0, .int .i64 ((tk y).after), .bool ((tk y).ans), .bool (((tk y).told || decide (ev = 2)))]) rfl ?_)
        intro wq19 H20
        refine l_of (s_val (v := .pointer (some ⟨y, 0, none⟩)) (wt0 rfl) rfl rfl (x_nilCheck rfl rfl) ?_)
        refine l_of (s_val (v := .pointer (some ⟨y, 2, none⟩)) (wt0 rfl) rfl rfl (x_fieldAddr rfl rfl fo71_2 rfl) ?_)
        refine l_of (s_store H20 2 (wt0 rfl) rfl rfl rfl rfl rfl sz3 rfl rfl (cs' := #[.string ((tk y).name), .int .i64 0, .int .i64 0, .bool ((tk y).ans), .bool (((tk y).told || decide (ev = 2)))]) rfl ?_)
        intro wq21 H22
        refine g_nil ?_
        refine g_then ?_
        refine g_seq ?_
        refine g_seq ?_
        refine g_region ?_
        have H23 := S.famIn (e := 71) (enc := Tk.cells) (gs := adr rows) (tk := tk) (x := y) (a := (⟨(tk y).name, 0, 0, (tk y).ans, (tk y).told || decide (ev = 2)⟩ : Tk)) (H22.takes [2, 3, 0, 1, 4, 5, 6] (by decide)) hy
        replace H23 : S wq21 [Fam 71 Tk.cells (adr rows) (upd tk y (⟨(tk y).name, 0, 0, (tk y).ans, (tk y).told || decide (ev = 2)⟩ : Tk)), Ob g14 (.cells #[.pointer (some ⟨y, 0, none⟩), .int .i64 ev] 61 (0, 0)), Ob g (.cells #[.pointer none, .int .i64 0, .slice P nr C, mp, .int .i64 n, .int .i64 til, .bool begun, .bool whole, .bool dn, .bool stopped] 64 (0, 0)), Rw 68 1 P nr C (rosV rows), RowsI 59 1 ptL rows, Old w (fps [Ob g (.cells #[.pointer (some ⟨y, 0, none⟩), .int .i64 ev, .slice P nr C, mp, .int .i64 now, .int .i64 til, .bool begun, .bool whole, .bool dn, .bool stopped] 64 (0, 0)), Rw 68 1 P nr C (rosV rows), RowsI 59 1 ptL rows, Fam 71 Tk.cells (adr rows) tk])] := H23
        have hl2 := tellS_0 hl0
        refine l_of (s_val (v := .pointer (some ⟨g, 0, none⟩)) (wt0 rfl) rfl rfl (x_move rfl rfl) ?_)
        refine l_of (s_val (v := .pointer (some ⟨g, 0, none⟩)) (wt0 rfl) rfl rfl (x_nilCheck rfl rfl) ?_)
        refine l_of (s_val (v := .pointer (some ⟨g, 2, none⟩)) (wt0 rfl) rfl rfl (x_fieldAddr rfl rfl fo64_1 rfl) ?_)
        refine l_of (s_val (v := .slice P nr C) (wt0 rfl) rfl rfl (x_load1 H23 2 rfl rfl Try.underlying62 rfl rfl rfl) ?_)
        refine l_of (s_val (v := .int .i64 ((nr : Int))) (wt0 rfl) rfl rfl (x_lenl rfl rfl Try.underlying62) ?_)
        refine l_of (s_val (v := .int .i64 0) (wt0 rfl) rfl rfl (x_move rfl rfl) ?_)
        refine g_nil ?_
        refine g_then ?_
        refine g_weak [(0, .pointer (some ⟨g, 0, none⟩)), (1, .int .i64 n), (2, .int .i64 iv), (7, .pointer (some ⟨g14, 0, none⟩)), (9, .pointer (some ⟨y, 0, none⟩)), (43, .slice P nr C), (44, .int .i64 ((nr : Int))), (45, .int .i64 0)] ⟨rfl, rfl, rfl, rfl, rfl, rfl, rfl, rfl, trivial⟩ ?_
        refine g_block ?_
        refine g_loop (ι := Nat) (fun j => [(0, .pointer (some ⟨g, 0, none⟩)), (1, .int .i64 n), (2, .int .i64 iv), (7, .pointer (some ⟨g14, 0, none⟩)), (9, .pointer (some ⟨y, 0, none⟩)), (43, .slice P nr C), (44, .int .i64 ((nr : Int))), (45, .int .i64 ((j : Int)))]) (fun j wx => (j ≤ nr) ∧ S wx [Fam 71 Tk.cells (adr rows) (upd tk y (⟨(tk y).name, 0, 0, (tk y).ans, (tk y).told || decide (ev = 2)⟩ : Tk)), Ob g14 (.cells #[.pointer (some ⟨y, 0, none⟩), .int .i64 ev] 61 (0, 0)), Ob g (.cells #[.pointer none, .int .i64 0, .slice P nr C, mp, .int .i64 n, .int .i64 til, .bool begun, .bool whole, .bool dn, .bool stopped] 64 (0, 0)), Rw 68 1 P nr C (rosV rows), RowsI 59 1 ptL (frontN y j rows), Old w (fps [Ob g (.cells #[.pointer (some ⟨y, 0, none⟩), .int .i64 ev, .slice P nr C, mp, .int .i64 now, .int .i64 til, .bool begun, .bool whole, .bool dn, .bool stopped] 64 (0, 0)), Rw 68 1 P nr C (rosV rows), RowsI 59 1 ptL rows, Fam 71 Tk.cells (adr rows) tk])]) (fun j => nr - j) (0) ⟨rfl, rfl, rfl, rfl, rfl, rfl, rfl, rfl, trivial⟩ ⟨Nat.zero_le _, H23⟩ ?_
        rintro j wq24 ⟨hj, H25⟩
        replace H25 : S wq24 [Fam 71 Tk.cells (adr rows) (upd tk y (⟨(tk y).name, 0, 0, (tk y).ans, (tk y).told || decide (ev = 2)⟩ : Tk)), Ob g14 (.cells #[.pointer (some ⟨y, 0, none⟩), .int .i64 ev] 61 (0, 0)), Ob g (.cells #[.pointer none, .int .i64 0, .slice P nr C, mp, .int .i64 n, .int .i64 til, .bool begun, .bool whole, .bool dn, .bool stopped] 64 (0, 0)), Rw 68 1 P nr C (rosV rows), RowsI 59 1 ptL (frontN y j rows), Old w (fps [Ob g (.cells #[.pointer (some ⟨y, 0, none⟩), .int .i64 ev, .slice P nr C, mp, .int .i64 now, .int .i64 til, .bool begun, .bool whole, .bool dn, .bool stopped] 64 (0, 0)), Rw 68 1 P nr C (rosV rows), RowsI 59 1 ptL rows, Fam 71 Tk.cells (adr rows) tk])] := H25
        refine g_weak [(0, .pointer (some ⟨g, 0, none⟩)), (1, .int .i64 n), (2, .int .i64 iv), (7, .pointer (some ⟨g14, 0, none⟩)), (9, .pointer (some ⟨y, 0, none⟩)), (43, .slice P nr C), (44, .int .i64 ((nr : Int))), (45, .int .i64 ((j : Int)))] ⟨rfl, rfl, rfl, rfl, rfl, rfl, rfl, rfl, trivial⟩ ?_
        refine g_seq ?_
        refine g_region ?_
        refine l_of (s_val (v := .bool (decide (((j : Int) : Int) < (nr : Int)))) (wt0 rfl) rfl rfl (x_bin rfl rfl rfl b_lss) ?_)
        refine g_nil ?_
        refine g_then ?_
        refine g_seq ?_
        by_cases hb26 : ((j : Int) : Int) < (nr : Int)
        · skip
          obtain ⟨r, hrow⟩ : ∃ r, rows[j]? = some r := ⟨_, List.getElem?_eq_getElem (by omega)⟩
          have hr2 := hrl r (List.mem_of_getElem? hrow)
          have hrowN := frontN_at (y := y) hrow
          have hgs : ∀ x ∈ r.l, x ∈ adr rows := fun x hx => List.mem_flatten.2 ⟨r.l, List.mem_map.2 ⟨r, List.mem_of_getElem? hrow, rfl⟩, hx⟩
          have hrc : r.l.length ≤ r.c := (rows_read (H25.at (k := 4) rfl) hrowN).2.1
          refine g_cond_t rfl (decide_eq_true hb26) ?_
          refine g_skip ?_
          refine g_then ?_
          refine g_seq ?_
          refine g_block ?_
          refine g_seq ?_
          refine g_region ?_
          refine l_of (s_val (v := .pointer ((P).map fun q => q.add (j * 1))) (wt0 rfl) rfl rfl (x_idxR j ((H25.rwReads (k := 3) rfl)) rfl rfl rfl Try.underlying62 sz68 (by omega)) ?_)
          refine l_of (s_val (v := .slice r.p r.l.length r.c) (wt0 rfl) rfl rfl (x_loadR1 j ((H25.rwReads (k := 3) rfl)) (by omega) rfl rfl Try.underlying68 rfl (rosV_at hrow)) ?_)
          refine l_of (s_val (v := .slice r.p r.l.length r.c) (wt0 rfl) rfl rfl (x_assign rfl rfl) ?_)
          refine g_nil ?_
          refine g_then ?_
          refine g_seq ?_
          refine g_region ?_
          refine l_of (s_val (v := .slice r.p r.l.length r.c) (wt0 rfl) rfl rfl (x_move rfl rfl) ?_)
          refine l_of (s_val (v := .pointer (some ⟨y, 0, none⟩)) (wt0 rfl) rfl rfl (x_move rfl rfl) ?_)
          refine l_of (s_call (wt0 rfl) (x_call' rfl rfl cl37) (index_s (tk := (upd tk y (⟨(tk y).name, 0, 0, (tk y).ans, (tk y).told || decide (ev = 2)⟩ : Tk))) (gs := adr rows) hrowN hr2 hgs hy _ (H25.takes [4, 0] (by decide))) ?_)
          rintro ee29 wq27 hor30
          rcases hor30 with ⟨hnf, rfl, H28⟩ | ⟨i, hif, hnf, rfl, H28⟩
          · skip
            replace H28 : S wq27 [RowsI 59 1 ptL (frontN y j rows), Fam 71 Tk.cells (adr rows) (upd tk y (⟨(tk y).name, 0, 0, (tk y).ans, (tk y).told || decide (ev = 2)⟩ : Tk)), Ob g14 (.cells #[.pointer (some ⟨y, 0, none⟩), .int .i64 ev] 61 (0, 0)), Ob g (.cells #[.pointer none, .int .i64 0, .slice P nr C, mp, .int .i64 n, .int .i64 til, .bool begun, .bool whole, .bool dn, .bool stopped] 64 (0, 0)), Rw 68 1 P nr C (rosV rows), Old w (fps [Ob g (.cells #[.pointer (some ⟨y, 0, none⟩), .int .i64 ev, .slice P nr C, mp, .int .i64 now, .int .i64 til, .bool begun, .bool whole, .bool dn, .bool stopped] 64 (0, 0)), Rw 68 1 P nr C (rosV rows), RowsI 59 1 ptL rows, Fam 71 Tk.cells (adr rows) tk])] := H25.absorbI (new := [RowsI 59 1 ptL (frontN y j rows), Fam 71 Tk.cells (adr rows) (upd tk y (⟨(tk y).name, 0, 0, (tk y).ans, (tk y).told || decide (ev = 2)⟩ : Tk))]) [4, 0] H28
            refine b_ret rfl rfl ?_
            refine l_of (s_val (v := .int .i64 (-1)) (wt0 rfl) rfl rfl (x_assign rfl rfl) ?_)
            refine g_nil ?_
            refine g_then ?_
            refine g_seq ?_
            refine g_region ?_
            refine l_of (s_val (v := .int .i64 (-1)) (wt0 rfl) rfl rfl (x_move rfl rfl) ?_)
            refine l_of (s_val (v := .bool (decide ((0 : Int) ≤ -1))) (wt0 rfl) rfl rfl (x_bin rfl rfl rfl b_geq) ?_)
            refine g_nil ?_
            refine g_then ?_
            refine g_cond_f rfl (by decide) ?_
            refine g_skip ?_
            refine g_in ?_
            refine g_then ?_
            refine g_region ?_
            refine l_of (s_val (v := .int .i64 (((j + 1 : Nat) : Int))) (wt0 rfl) rfl rfl (x_bin rfl rfl rfl (b_add (by rw [w64 (by omega)]; omega))) ?_)
            refine l_of (s_val (v := .int .i64 (((j + 1 : Nat) : Int))) (wt0 rfl) rfl rfl (x_move rfl rfl) ?_)
            refine g_nil ?_
            refine g_then ?_
            refine g_round (i := (j)) (j + 1) ?_ ?_ ?_
            · exact ⟨rfl, rfl, rfl, rfl, rfl, rfl, rfl, rfl, trivial⟩
            · exact ⟨by omega, (by rw [frontN_skip hrow hnf]; exact H28.takes [1, 2, 3, 4, 0, 5] (by decide))⟩
            · (try dsimp only); omega
          · skip
            replace H28 : S wq27 [RowsI 59 1 ptL (frontN y j rows), Fam 71 Tk.cells (adr rows) (upd tk y (⟨(tk y).name, 0, 0, (tk y).ans, (tk y).told || decide (ev = 2)⟩ : Tk)), Ob g14 (.cells #[.pointer (some ⟨y, 0, none⟩), .int .i64 ev] 61 (0, 0)), Ob g (.cells #[.pointer none, .int .i64 0, .slice P nr C, mp, .int .i64 n, .int .i64 til, .bool begun, .bool whole, .bool dn, .bool stopped] 64 (0, 0)), Rw 68 1 P nr C (rosV rows), Old w (fps [Ob g (.cells #[.pointer (some ⟨y, 0, none⟩), .int .i64 ev, .slice P nr C, mp, .int .i64 now, .int .i64 til, .bool begun, .bool whole, .bool dn, .bool stopped] 64 (0, 0)), Rw 68 1 P nr C (rosV rows), RowsI 59 1 ptL rows, Fam 71 Tk.cells (adr rows) tk])] := H25.absorbI (new := [RowsI 59 1 ptL (frontN y j rows), Fam 71 Tk.cells (adr rows) (upd tk y (⟨(tk y).name, 0, 0, (tk y).ans, (tk y).told || decide (ev = 2)⟩ : Tk))]) [4, 0] H28
            have hilt := (List.getElem?_eq_some_iff.1 hif).1
            refine b_ret rfl rfl ?_
            refine l_of (s_val (v := .int .i64 ((i : Int))) (wt0 rfl) rfl rfl (x_assign rfl rfl) ?_)
            refine g_nil ?_
            refine g_then ?_
            refine g_seq ?_
            refine g_region ?_
            refine l_of (s_val (v := .int .i64 ((i : Int))) (wt0 rfl) rfl rfl (x_move rfl rfl) ?_)
            refine l_of (s_val (v := .bool (decide ((0 : Int) ≤ (i : Int)))) (wt0 rfl) rfl rfl (x_bin rfl rfl rfl b_geq) ?_)
            refine g_nil ?_
            refine g_then ?_
            refine g_cond_t rfl (decide_eq_true (by omega)) ?_
            refine g_seq ?_
            refine g_any [] (fun _ => True) [] (by kernel_rfl) H28 (fun wq32 H33 => ?_)
            refine a_pure (v := .slice r.p r.l.length r.c) 0 rfl (wt0 rfl) rfl rfl rfl (by kernel_rfl) (by kernel_rfl) (by kernel_rfl) (.inr fun _ => trivial) (fun wx => x_move rfl rfl) ?_
            refine a_pure (v := .int .i64 ((i : Int))) 1 rfl (wt0 rfl) rfl rfl rfl (by kernel_rfl) (by kernel_rfl) (by kernel_rfl) (.inr fun _ => trivial) (fun wx => x_move rfl rfl) ?_
            refine a_pure (v := .int .i64 (((i + 1 : Nat) : Int))) 2 rfl (wt0 rfl) rfl rfl rfl (by kernel_rfl) (by kernel_rfl) (by kernel_rfl) (.inr fun _ => trivial) (fun wx => x_bin rfl rfl rfl (b_add (by rw [w64 (by omega)]; omega))) ?_
            refine a_pure (v := .slice (cutP r.p 1 r.c 1) (i + 1 - 1) (r.c - 1)) 3 rfl (wt0 rfl) rfl rfl rfl (by kernel_rfl) (by kernel_rfl) (by kernel_rfl) (.inr fun _ => trivial) (fun wx => x_sliceLH 1 (i + 1) rfl rfl rfl rfl Try.underlying68 sz59 (by omega)) ?_
            refine a_pure (v := .slice r.p r.l.length r.c) 4 rfl (wt0 rfl) rfl rfl rfl (by kernel_rfl) (by kernel_rfl) (by kernel_rfl) (.inr fun _ => trivial) (fun wx => x_move rfl rfl) ?_
            refine a_pure (v := .int .i64 ((i : Int))) 5 rfl (wt0 rfl) rfl rfl rfl (by kernel_rfl) (by kernel_rfl) (by kernel_rfl) (.inr fun _ => trivial) (fun wx => x_move rfl rfl) ?_
            refine a_pure (v := .slice (cutP r.p 0 r.c 1) i r.c) 6 rfl (wt0 rfl) rfl rfl rfl (by kernel_rfl) (by kernel_rfl) (by kernel_rfl) (.inr fun _ => trivial) (fun wx => x_sliceH i rfl rfl rfl Try.underlying68 sz59 (by omega)) ?_
            refine a_one (i := 7) (by kernel_rfl) rfl ?_
            have H34 := S.rowsOut (H33.takes [0, 1, 2, 3, 4, 5] (by decide)) hrowN
            replace H34 : S wq32 [Rw 59 1 r.p r.l.length r.c (r.l.flatMap ptL), RowsI 59 1 ptL ((frontN y j rows).eraseIdx j), Fam 71 Tk.cells (adr rows) (upd tk y (⟨(tk y).name, 0, 0, (tk y).ans, (tk y).told || decide (ev = 2)⟩ : Tk)), Ob g14 (.cells #[.pointer (some ⟨y, 0, none⟩), .int .i64 ev] 61 (0, 0)), Ob g (.cells #[.pointer none, .int .i64 0, .slice P nr C, mp, .int .i64 n, .int .i64 til, .bool begun, .bool whole, .bool dn, .bool stopped] 64 (0, 0)), Rw 68 1 P nr C (rosV rows), Old w (fps [Ob g (.cells #[.pointer (some ⟨y, 0, none⟩), .int .i64 ev, .slice P nr C, mp, .int .i64 now, .int .i64 til, .bool begun, .bool whole, .bool dn, .bool stopped] 64 (0, 0)), Rw 68 1 P nr C (rosV rows), RowsI 59 1 ptL rows, Fam 71 Tk.cells (adr rows) tk])] := H34
            refine s_copyUp (i := i) (n := r.l.length) (c := r.c) (p := r.p) (xs := (r.l.flatMap ptL)) H34 0 (wt0 rfl) rfl rfl rfl rfl rfl rfl Try.underlying68 sz59 (ptL_one _) (by omega) ?_
            intro wq35 H36
            refine a_k trivial ?_
            refine a_done (by kernel_rfl) ?_
            refine g_then ?_
            refine g_weak [(0, .pointer (some ⟨g, 0, none⟩)), (1, .int .i64 n), (2, .int .i64 iv), (7, .pointer (some ⟨g14, 0, none⟩)), (9, .pointer (some ⟨y, 0, none⟩)), (11, .slice r.p r.l.length r.c), (43, .slice P nr C), (44, .int .i64 ((nr : Int))), (45, .int .i64 ((j : Int)))] ⟨rfl, rfl, rfl, rfl, rfl, rfl, rfl, rfl, rfl, trivial⟩ ?_
            refine g_region ?_
            refine l_of (s_val (v := .slice r.p r.l.length r.c) (wt0 rfl) rfl rfl (x_move rfl rfl) ?_)
            refine l_of (s_val (v := .pointer (some ⟨y, 0, none⟩)) (wt0 rfl) rfl rfl (x_move rfl rfl) ?_)
            refine l_of (s_val (v := .pointer ((r.p).map fun q => q.add (0 * 1))) (wt0 rfl) rfl rfl (x_idxR 0 ((H36.rwReads (k := 0) rfl)) rfl rfl rfl Try.underlying68 sz59 (by omega)) ?_)
            refine l_of (s_storeW (j := 0) (size := 1) (n := r.l.length) (c := r.c) (p := r.p) (xs := ((r.l.flatMap ptL).take 1 ++ (r.l.flatMap ptL).take i ++ (r.l.flatMap ptL).drop (i + 1))) (v := .pointer (some ⟨y, 0, none⟩)) H36 0 (wt0 rfl) rfl rfl rfl rfl rfl sz59 rfl rfl (by omega) ?_)
            intro wq37 H38
            replace H38 : S wq37 [Rw 59 1 r.p r.l.length r.c (((r.l.flatMap ptL).take 1 ++ (r.l.flatMap ptL).take i ++ (r.l.flatMap ptL).drop (i + 1)).take (0 * 1) ++ (#[Value.pointer (some ⟨y, 0, none⟩)] : Array Value).toList ++ ((r.l.flatMap ptL).take 1 ++ (r.l.flatMap ptL).take i ++ (r.l.flatMap ptL).drop (i + 1)).drop (0 * 1 + 1)), RowsI 59 1 ptL ((frontN y j rows).eraseIdx j), Fam 71 Tk.cells (adr rows) (upd tk y (⟨(tk y).name, 0, 0, (tk y).ans, (tk y).told || decide (ev = 2)⟩ : Tk)), Ob g14 (.cells #[.pointer (some ⟨y, 0, none⟩), .int .i64 ev] 61 (0, 0)), Ob g (.cells #[.pointer none, .int .i64 0, .slice P nr C, mp, .int .i64 n, .int .i64 til, .bool begun, .bool whole, .bool dn, .bool stopped] 64 (0, 0)), Rw 68 1 P nr C (rosV rows), Old w (fps [Ob g (.cells #[.pointer (some ⟨y, 0, none⟩), .int .i64 ev, .slice P nr C, mp, .int .i64 now, .int .i64 til, .bool begun, .bool whole, .bool dn, .bool stopped] 64 (0, 0)), Rw 68 1 P nr C (rosV rows), RowsI 59 1 ptL rows, Fam 71 Tk.cells (adr rows) tk])] := H38
            rw [front_cells hif hnf] at H38
            have H39 := S.rowsIn (e := 59) (size := 1) (enc := ptL) (rs := frontN y j rows) (r := frontR y r) (j := j) (by have := H38.takes [0, 1, 2, 3, 4, 5, 6] (by decide); have e1 : (frontR y r).l.length = r.l.length := frontL_len y r.l; unfold roI; rw [e1]; exact this) (by rw [frontN_len]; omega)
            rw [frontN_next hrow] at H39
            have H40 : S wq37 [RowsI 59 1 ptL (frontN y (j + 1) rows), Fam 71 Tk.cells (adr rows) (upd tk y (⟨(tk y).name, 0, 0, (tk y).ans, (tk y).told || decide (ev = 2)⟩ : Tk)), Ob g14 (.cells #[.pointer (some ⟨y, 0, none⟩), .int .i64 ev] 61 (0, 0)), Ob g (.cells #[.pointer none, .int .i64 0, .slice P nr C, mp, .int .i64 n, .int .i64 til, .bool begun, .bool whole, .bool dn, .bool stopped] 64 (0, 0)), Rw 68 1 P nr C (rosV rows), Old w (fps [Ob g (.cells #[.pointer (some ⟨y, 0, none⟩), .int .i64 ev, .slice P nr C, mp, .int .i64 now, .int .i64 til, .bool begun, .bool whole, .bool dn, .bool stopped] 64 (0, 0)), Rw 68 1 P nr C (rosV rows), RowsI 59 1 ptL rows, Fam 71 Tk.cells (adr rows) tk])] := H39
            refine g_nil ?_
            refine g_in ?_
            refine g_then ?_
            refine g_region ?_
            refine l_of (s_val (v := .int .i64 (((j + 1 : Nat) : Int))) (wt0 rfl) rfl rfl (x_bin rfl rfl rfl (b_add (by rw [w64 (by omega)]; omega))) ?_)
            refine l_of (s_val (v := .int .i64 (((j + 1 : Nat) : Int))) (wt0 rfl) rfl rfl (x_move rfl rfl) ?_)
            refine g_nil ?_
            refine g_then ?_
            refine g_round (i := (j)) (j + 1) ?_ ?_ ?_
            · exact ⟨rfl, rfl, rfl, rfl, rfl, rfl, rfl, rfl, trivial⟩
            · exact ⟨by omega, (H40.takes [1, 2, 3, 4, 0, 5] (by decide))⟩
            · (try dsimp only); omega
        · skip
          refine g_cond_f rfl (decide_eq_false hb26) ?_
          refine g_exit ?_
          refine g_then_exit ?_
          refine g_then_exit ?_
          refine g_in_hit ?_
          refine g_then ?_
          refine g_seq ?_
          refine g_seq ?_
          refine g_region ?_
          have hjn : j = rows.length := by omega
          subst hjn
          have H42 : S wq24 [Fam 71 Tk.cells (adr rows) (upd tk y (⟨(tk y).name, 0, 0, (tk y).ans, (tk y).told || decide (ev = 2)⟩ : Tk)), Ob g14 (.cells #[.pointer (some ⟨y, 0, none⟩), .int .i64 ev] 61 (0, 0)), Ob g (.cells #[.pointer none, .int .i64 0, .slice P nr C, mp, .int .i64 n, .int .i64 til, .bool begun, .bool whole, .bool dn, .bool stopped] 64 (0, 0)), Rw 68 1 P nr C (rosV (rows.map (frontR y))), RowsI 59 1 ptL (rows.map (frontR y)), Old w (fps [Ob g (.cells #[.pointer (some ⟨y, 0, none⟩), .int .i64 ev, .slice P nr C, mp, .int .i64 now, .int .i64 til, .bool begun, .bool whole, .bool dn, .bool stopped] 64 (0, 0)), Rw 68 1 P nr C (rosV rows), RowsI 59 1 ptL rows, Fam 71 Tk.cells (adr rows) tk])] := by rw [rosV_front, ← frontN_all]; exact H25
          have H43 := S.famOut (H42.takes [0, 1, 2, 3, 4, 5] (by decide)) hy
          rw [upd_same] at H43
          replace H43 : S wq24 [Ob y (.cells #[.string ((⟨(tk y).name, 0, 0, (tk y).ans, (tk y).told || decide (ev = 2)⟩ : Tk).name), .int .i64 ((⟨(tk y).name, 0, 0, (tk y).ans, (tk y).told || decide (ev = 2)⟩ : Tk).failed), .int .i64 ((⟨(tk y).name, 0, 0, (tk y).ans, (tk y).told || decide (ev = 2)⟩ : Tk).after), .bool ((⟨(tk y).name, 0, 0, (tk y).ans, (tk y).told || decide (ev = 2)⟩ : Tk).ans), .bool ((⟨(tk y).name, 0, 0, (tk y).ans, (tk y).told || decide (ev = 2)⟩ : Tk).told)] 71 (0, 0)), Fam 71 Tk.cells ((adr rows).erase y) (upd tk y (⟨(tk y).name, 0, 0, (tk y).ans, (tk y).told || decide (ev = 2)⟩ : Tk)), Ob g14 (.cells #[.pointer (some ⟨y, 0, none⟩), .int .i64 ev] 61 (0, 0)), Ob g (.cells #[.pointer none, .int .i64 0, .slice P nr C, mp, .int .i64 n, .int .i64 til, .bool begun, .bool whole, .bool dn, .bool stopped] 64 (0, 0)), Rw 68 1 P nr C (rosV (rows.map (frontR y))), RowsI 59 1 ptL (rows.map (frontR y)), Old w (fps [Ob g (.cells #[.pointer (some ⟨y, 0, none⟩), .int .i64 ev, .slice P nr C, mp, .int .i64 now, .int .i64 til, .bool begun, .bool whole, .bool dn, .bool stopped] 64 (0, 0)), Rw 68 1 P nr C (rosV rows), RowsI 59 1 ptL rows, Fam 71 Tk.cells (adr rows) tk])] := H43
          have H44 : S wq24 [Ob y (.cells #[.string ((tk y).name), .int .i64 0, .int .i64 0, .bool ((tk y).ans), .bool (((tk y).told || decide (ev = 2)))] 71 (0, 0)), Fam 71 Tk.cells ((adr rows).erase y) (upd tk y (⟨(tk y).name, 0, 0, (tk y).ans, (tk y).told || decide (ev = 2)⟩ : Tk)), Ob g14 (.cells #[.pointer (some ⟨y, 0, none⟩), .int .i64 ev] 61 (0, 0)), Ob g (.cells #[.pointer none, .int .i64 0, .slice P nr C, mp, .int .i64 n, .int .i64 til, .bool begun, .bool whole, .bool dn, .bool stopped] 64 (0, 0)), Rw 68 1 P nr C (rosV (rows.map (frontR y))), RowsI 59 1 ptL (rows.map (frontR y)), Old w (fps [Ob g (.cells #[.pointer (some ⟨y, 0, none⟩), .int .i64 ev, .slice P nr C, mp, .int .i64 now, .int .i64 til, .bool begun, .bool whole, .bool dn, .bool stopped] 64 (0, 0)), Rw 68 1 P nr C (rosV rows), RowsI 59 1 ptL rows, Fam 71 Tk.cells (adr rows) tk])] := H43
          refine l_of (s_val (v := .pointer (some ⟨g14, 1, none⟩)) (wt0 rfl) rfl rfl (x_fieldAddr rfl rfl fo61_1 rfl) ?_)
          refine l_of (s_val (v := .int .i64 ev) (wt0 rfl) rfl rfl (x_load1 H44 2 rfl rfl Try.underlying3 rfl rfl rfl) ?_)
          refine l_of (s_val (v := .bool (decide ((ev : Int) = 2))) (wt0 rfl) rfl rfl (x_bin rfl rfl rfl b_eql) ?_)
          refine g_nil ?_
          refine g_then ?_
          by_cases hb45 : (ev : Int) = 2
          · skip
            refine g_cond_t rfl (decide_eq_true hb45) ?_
            refine g_seq ?_
            refine g_region ?_
            refine l_of (s_val (v := .int .i64 0) (wt0 rfl) rfl rfl (x_assign rfl rfl) ?_)
            refine g_nil ?_
            refine g_then ?_
            refine g_weak [(6, .int .i64 0)] ⟨rfl, trivial⟩ ?_
            refine g_ret ?_
            refine g_then_ret ?_
            refine fin_ret [.tmp 6] [.int .i64 0] rfl ⟨rfl, trivial⟩ ?_
            have H46 := S.famIn (e := 71) (enc := Tk.cells) (gs := adr rows) (tk := (upd tk y (⟨(tk y).name, 0, 0, (tk y).ans, (tk y).told || decide (ev = 2)⟩ : Tk))) (x := y) (a := (⟨(tk y).name, 0, 0, (tk y).ans, (tk y).told || decide (ev = 2)⟩ : Tk)) (H44.takes [0, 1, 3, 4, 5, 6] (by decide)) hy
            rw [upd_upd] at H46
            rw [show ((tk y).told || decide (ev = 2)) = true from by rw [decide_eq_true hb45, Bool.or_true]] at H46
            replace H46 := S.famPerm H46 (adr_front y rows).symm
            exact .inr (.inr (.inl ⟨by omega, by omega, hl0, hb45, rfl, H46.takes [1, 2, 3, 0, 4] (by decide)⟩))
          · skip
            refine g_cond_f rfl (decide_eq_false hb45) ?_
            refine g_skip ?_
            refine g_then ?_
            refine g_seq ?_
            refine g_region ?_
            refine l_of (s_val (v := .pointer (some ⟨y, 0, none⟩)) (wt0 rfl) rfl rfl (x_move rfl rfl) ?_)
            refine l_of (s_val (v := .pointer (some ⟨y, 0, none⟩)) (wt0 rfl) rfl rfl (x_move rfl rfl) ?_)
            refine l_of (s_val (v := .pointer (some ⟨y, 0, none⟩)) (wt0 rfl) rfl rfl (x_nilCheck rfl rfl) ?_)
            refine l_of (s_val (v := .pointer (some ⟨y, 3, none⟩)) (wt0 rfl) rfl rfl (x_fieldAddr rfl rfl fo71_3 rfl) ?_)
            refine l_of (s_store H44 0 (wt0 rfl) rfl rfl rfl rfl rfl sz4 rfl rfl (cs' := #[.string ((tk y).name), .int .i64 0, .int .i64 0, .bool true, .bool (((tk y).told || decide (ev = 2)))]) rfl ?_)
            intro wq47 H48
            refine l_of (s_val (v := .pointer (some ⟨y, 0, none⟩)) (wt0 rfl) rfl rfl (x_nilCheck rfl rfl) ?_)
            refine l_of (s_val (v := .pointer (some ⟨y, 4, none⟩)) (wt0 rfl) rfl rfl (x_fieldAddr rfl rfl fo71_4 rfl) ?_)
            refine l_of (s_store H48 0 (wt0 rfl) rfl rfl rfl rfl rfl sz4 rfl rfl (cs' := #[.string ((tk y).name), .int .i64 0, .int .i64 0, .bool true, .bool false]) rfl ?_)
            intro wq49 H50
            refine g_nil ?_
            refine g_then ?_
            refine g_weak [(0, .pointer (some ⟨g, 0, none⟩)), (1, .int .i64 n), (2, .int .i64 iv), (7, .pointer (some ⟨g14, 0, none⟩))] ⟨rfl, rfl, rfl, rfl, trivial⟩ ?_
            refine g_seq ?_
            refine g_region ?_
            refine l_of (s_val (v := .pointer (some ⟨g, 0, none⟩)) (wt0 rfl) rfl rfl (x_move rfl rfl) ?_)
            refine l_of (s_val (v := .int .i64 n) (wt0 rfl) rfl rfl (x_move rfl rfl) ?_)
            refine l_of (s_val (v := .int .i64 iv) (wt0 rfl) rfl rfl (x_move rfl rfl) ?_)
            refine l_of (s_val (v := .int .i64 (n + iv)) (wt0 rfl) rfl rfl (x_bin rfl rfl rfl (b_add (w64 (by omega)))) ?_)
            refine l_of (s_val (v := .pointer (some ⟨g, 0, none⟩)) (wt0 rfl) rfl rfl (x_nilCheck rfl rfl) ?_)
            refine l_of (s_val (v := .pointer (some ⟨g, 5, none⟩)) (wt0 rfl) rfl rfl (x_fieldAddr rfl rfl fo64_4 rfl) ?_)
            refine l_of (s_store H50 3 (wt0 rfl) rfl rfl rfl rfl rfl sz3 rfl rfl (cs' := #[.pointer none, .int .i64 0, .slice P nr C, mp, .int .i64 n, .int .i64 (n + iv), .bool begun, .bool whole, .bool dn, .bool stopped]) rfl ?_)
            intro wq51 H52
            refine g_nil ?_
            refine g_then ?_
            refine g_seq ?_
            refine g_region ?_
            refine l_of (s_val (v := .pointer (some ⟨g, 0, none⟩)) (wt0 rfl) rfl rfl (x_move rfl rfl) ?_)
            refine l_of (s_val (v := .pointer (some ⟨g, 0, none⟩)) (wt0 rfl) rfl rfl (x_move rfl rfl) ?_)
            refine l_of (s_val (v := .pointer (some ⟨g, 0, none⟩)) (wt0 rfl) rfl rfl (x_nilCheck rfl rfl) ?_)
            refine l_of (s_val (v := .pointer (some ⟨g, 6, none⟩)) (wt0 rfl) rfl rfl (x_fieldAddr rfl rfl fo64_5 rfl) ?_)
            refine l_of (s_val (v := .bool begun) (wt0 rfl) rfl rfl (x_load1 H52 3 rfl rfl Try.underlying4 rfl rfl rfl) ?_)
            refine l_of (s_val (v := .bool begun) (wt0 rfl) rfl rfl (x_move rfl rfl) ?_)
            rcases Bool.eq_false_or_eq_true (begun) with hb53 | hb53
            · skip
              refine l_of (s_not (wn1 rfl rfl rfl rfl hb53) rfl rfl ?_)
              refine l_of (s_not (wn1 rfl rfl rfl rfl hb53) rfl rfl ?_)
              refine l_of (s_not (wn1 rfl rfl rfl rfl hb53) rfl rfl ?_)
              refine l_of (s_val (v := .bool true) (wt0 rfl) rfl rfl (x_pick_t rfl rfl hb53 rfl) ?_)
              refine l_of (s_val (v := .pointer (some ⟨g, 0, none⟩)) (wt0 rfl) rfl rfl (x_nilCheck rfl rfl) ?_)
              refine l_of (s_val (v := .pointer (some ⟨g, 6, none⟩)) (wt0 rfl) rfl rfl (x_fieldAddr rfl rfl fo64_5 rfl) ?_)
              refine l_of (s_store H52 3 (wt0 rfl) rfl rfl rfl rfl rfl sz4 rfl rfl (cs' := #[.pointer none, .int .i64 0, .slice P nr C, mp, .int .i64 n, .int .i64 (n + iv), .bool true, .bool whole, .bool dn, .bool stopped]) rfl ?_)
              intro wq54 H55
              refine g_nil ?_
              refine g_then ?_
              refine g_weak [(0, .pointer (some ⟨g, 0, none⟩)), (7, .pointer (some ⟨g14, 0, none⟩))] ⟨rfl, rfl, trivial⟩ ?_
              refine g_seq ?_
              refine g_region ?_
              refine l_of (s_val (v := .pointer (some ⟨g, 0, none⟩)) (wt0 rfl) rfl rfl (x_move rfl rfl) ?_)
              refine l_of (s_val (v := .pointer (some ⟨g, 0, none⟩)) (wt0 rfl) rfl rfl (x_move rfl rfl) ?_)
              refine l_of (s_val (v := .pointer (some ⟨g, 0, none⟩)) (wt0 rfl) rfl rfl (x_nilCheck rfl rfl) ?_)
              refine l_of (s_val (v := .pointer (some ⟨g, 8, none⟩)) (wt0 rfl) rfl rfl (x_fieldAddr rfl rfl fo64_7 rfl) ?_)
              refine l_of (s_val (v := .bool dn) (wt0 rfl) rfl rfl (x_load1 H55 3 rfl rfl Try.underlying4 rfl rfl rfl) ?_)
              refine l_of (s_val (v := .bool dn) (wt0 rfl) rfl rfl (x_move rfl rfl) ?_)
              rcases Bool.eq_false_or_eq_true (dn) with hb56 | hb56
              · skip
                refine l_of (s_val (v := .pointer (some ⟨g14, 1, none⟩)) (wt1 rfl rfl rfl rfl hb56) rfl rfl (x_fieldAddr rfl rfl fo61_1 rfl) ?_)
                refine l_of (s_val (v := .int .i64 ev) (wt1 rfl rfl rfl rfl hb56) rfl rfl (x_load1 H55 2 rfl rfl Try.underlying3 rfl rfl rfl) ?_)
                refine l_of (s_val (v := .bool (!decide ((ev : Int) = 3))) (wt1 rfl rfl rfl rfl hb56) rfl rfl (x_bin rfl rfl rfl b_neq) ?_)
                refine l_of (s_val (v := .bool (!decide ((ev : Int) = 3))) (wt0 rfl) rfl rfl (x_pick_t rfl rfl hb56 rfl) ?_)
                refine l_of (s_val (v := .pointer (some ⟨g, 0, none⟩)) (wt0 rfl) rfl rfl (x_nilCheck rfl rfl) ?_)
                refine l_of (s_val (v := .pointer (some ⟨g, 8, none⟩)) (wt0 rfl) rfl rfl (x_fieldAddr rfl rfl fo64_7 rfl) ?_)
                refine l_of (s_store H55 3 (wt0 rfl) rfl rfl rfl rfl rfl sz4 rfl rfl (cs' := #[.pointer none, .int .i64 0, .slice P nr C, mp, .int .i64 n, .int .i64 (n + iv), .bool true, .bool whole, .bool (!decide ((ev : Int) = 3)), .bool stopped]) rfl ?_)
                intro wq57 H58
                refine g_nil ?_
                refine g_then ?_
                refine g_weak [] trivial ?_
                refine g_seq ?_
                refine g_region ?_
                refine l_of (s_val (v := .int .i64 0) (wt0 rfl) rfl rfl (x_assign rfl rfl) ?_)
                refine g_nil ?_
                refine g_then ?_
                refine g_ret ?_
                refine fin_ret [.tmp 6] [.int .i64 0] rfl ⟨rfl, trivial⟩ ?_
                have H59 := S.famIn (e := 71) (enc := Tk.cells) (gs := adr rows) (tk := (upd tk y (⟨(tk y).name, 0, 0, (tk y).ans, (tk y).told || decide (ev = 2)⟩ : Tk))) (x := y) (a := (⟨(tk y).name, 0, 0, true, false⟩ : Tk)) (H58.takes [0, 1, 3, 4, 5, 6] (by decide)) hy
                rw [upd_upd] at H59
                replace H59 := S.famPerm H59 (adr_front y rows).symm
                have eb : (begun || decide (ev = 1)) = (true) := by simp [hb45, hb53, hb56]
                have ed : (dn && !decide (ev = 3)) = (!decide ((ev : Int) = 3)) := by simp [hb45, hb53, hb56]
                exact .inr (.inr (.inr ⟨by omega, by omega, hl0, hb45, rfl, by rw [eb, ed]; exact H59.takes [1, 2, 3, 0, 4] (by decide)⟩))
              · skip
                refine l_of (s_not (wn1 rfl rfl rfl rfl hb56) rfl rfl ?_)
                refine l_of (s_not (wn1 rfl rfl rfl rfl hb56) rfl rfl ?_)
                refine l_of (s_not (wn1 rfl rfl rfl rfl hb56) rfl rfl ?_)
                refine l_of (s_val (v := .bool false) (wt0 rfl) rfl rfl (x_pick_f rfl rfl hb56 rfl) ?_)
                refine l_of (s_val (v := .pointer (some ⟨g, 0, none⟩)) (wt0 rfl) rfl rfl (x_nilCheck rfl rfl) ?_)
                refine l_of (s_val (v := .pointer (some ⟨g, 8, none⟩)) (wt0 rfl) rfl rfl (x_fieldAddr rfl rfl fo64_7 rfl) ?_)
                refine l_of (s_store H55 3 (wt0 rfl) rfl rfl rfl rfl rfl sz4 rfl rfl (cs' := #[.pointer none, .int .i64 0, .slice P nr C, mp, .int .i64 n, .int .i64 (n + iv), .bool true, .bool whole, .bool false, .bool stopped]) rfl ?_)
                intro wq60 H61
                refine g_nil ?_
                refine g_then ?_
                refine g_weak [] trivial ?_
                refine g_seq ?_
                refine g_region ?_
                refine l_of (s_val (v := .int .i64 0) (wt0 rfl) rfl rfl (x_assign rfl rfl) ?_)
                refine g_nil ?_
                refine g_then ?_
                refine g_ret ?_
                refine fin_ret [.tmp 6] [.int .i64 0] rfl ⟨rfl, trivial⟩ ?_
                have H62 := S.famIn (e := 71) (enc := Tk.cells) (gs := adr rows) (tk := (upd tk y (⟨(tk y).name, 0, 0, (tk y).ans, (tk y).told || decide (ev = 2)⟩ : Tk))) (x := y) (a := (⟨(tk y).name, 0, 0, true, false⟩ : Tk)) (H61.takes [0, 1, 3, 4, 5, 6] (by decide)) hy
                rw [upd_upd] at H62
                replace H62 := S.famPerm H62 (adr_front y rows).symm
                have eb : (begun || decide (ev = 1)) = (true) := by simp [hb45, hb53, hb56]
                have ed : (dn && !decide (ev = 3)) = (false) := by simp [hb45, hb53, hb56]
                exact .inr (.inr (.inr ⟨by omega, by omega, hl0, hb45, rfl, by rw [eb, ed]; exact H62.takes [1, 2, 3, 0, 4] (by decide)⟩))
            · skip
              refine l_of (s_val (v := .pointer (some ⟨g14, 1, none⟩)) (wt1 rfl rfl rfl rfl hb53) rfl rfl (x_fieldAddr rfl rfl fo61_1 rfl) ?_)
              refine l_of (s_val (v := .int .i64 ev) (wt1 rfl rfl rfl rfl hb53) rfl rfl (x_load1 H52 2 rfl rfl Try.underlying3 rfl rfl rfl) ?_)
              refine l_of (s_val (v := .bool (decide ((ev : Int) = 1))) (wt1 rfl rfl rfl rfl hb53) rfl rfl (x_bin rfl rfl rfl b_eql) ?_)
              refine l_of (s_val (v := .bool (decide ((ev : Int) = 1))) (wt0 rfl) rfl rfl (x_pick_f rfl rfl hb53 rfl) ?_)
              refine l_of (s_val (v := .pointer (some ⟨g, 0, none⟩)) (wt0 rfl) rfl rfl (x_nilCheck rfl rfl) ?_)
              refine l_of (s_val (v := .pointer (some ⟨g, 6, none⟩)) (wt0 rfl) rfl rfl (x_fieldAddr rfl rfl fo64_5 rfl) ?_)
              refine l_of (s_store H52 3 (wt0 rfl) rfl rfl rfl rfl rfl sz4 rfl rfl (cs' := #[.pointer none, .int .i64 0, .slice P nr C, mp, .int .i64 n, .int .i64 (n + iv), .bool (decide ((ev : Int) = 1)), .bool whole, .bool dn, .bool stopped]) rfl ?_)
              intro wq63 H64
              refine g_nil ?_
              refine g_then ?_
              refine g_weak [(0, .pointer (some ⟨g, 0, none⟩)), (7, .pointer (some ⟨g14, 0, none⟩))] ⟨rfl, rfl, trivial⟩ ?_
              refine g_seq ?_
              refine g_region ?_
              refine l_of (s_val (v := .pointer (some ⟨g, 0, none⟩)) (wt0 rfl) rfl rfl (x_move rfl rfl) ?_)
              refine l_of (s_val (v := .pointer (some ⟨g, 0, none⟩)) (wt0 rfl) rfl rfl (x_move rfl rfl) ?_)
              refine l_of (s_val (v := .pointer (some ⟨g, 0, none⟩)) (wt0 rfl) rfl rfl (x_nilCheck rfl rfl) ?_)
              refine l_of (s_val (v := .pointer (some ⟨g, 8, none⟩)) (wt0 rfl) rfl rfl (x_fieldAddr rfl rfl fo64_7 rfl) ?_)
              refine l_of (s_val (v := .bool dn) (wt0 rfl) rfl rfl (x_load1 H64 3 rfl rfl Try.underlying4 rfl rfl rfl) ?_)
              refine l_of (s_val (v := .bool dn) (wt0 rfl) rfl rfl (x_move rfl rfl) ?_)
              rcases Bool.eq_false_or_eq_true (dn) with hb65 | hb65
              · skip
                refine l_of (s_val (v := .pointer (some ⟨g14, 1, none⟩)) (wt1 rfl rfl rfl rfl hb65) rfl rfl (x_fieldAddr rfl rfl fo61_1 rfl) ?_)
                refine l_of (s_val (v := .int .i64 ev) (wt1 rfl rfl rfl rfl hb65) rfl rfl (x_load1 H64 2 rfl rfl Try.underlying3 rfl rfl rfl) ?_)
                refine l_of (s_val (v := .bool (!decide ((ev : Int) = 3))) (wt1 rfl rfl rfl rfl hb65) rfl rfl (x_bin rfl rfl rfl b_neq) ?_)
                refine l_of (s_val (v := .bool (!decide ((ev : Int) = 3))) (wt0 rfl) rfl rfl (x_pick_t rfl rfl hb65 rfl) ?_)
                refine l_of (s_val (v := .pointer (some ⟨g, 0, none⟩)) (wt0 rfl) rfl rfl (x_nilCheck rfl rfl) ?_)
                refine l_of (s_val (v := .pointer (some ⟨g, 8, none⟩)) (wt0 rfl) rfl rfl (x_fieldAddr rfl rfl fo64_7 rfl) ?_)
                refine l_of (s_store H64 3 (wt0 rfl) rfl rfl rfl rfl rfl sz4 rfl rfl (cs' := #[.pointer none, .int .i64 0, .slice P nr C, mp, .int .i64 n, .int .i64 (n + iv), .bool (decide ((ev : Int) = 1)), .bool whole, .bool (!decide ((ev : Int) = 3)), .bool stopped]) rfl ?_)
                intro wq66 H67
                refine g_nil ?_
                refine g_then ?_
                refine g_weak [] trivial ?_
                refine g_seq ?_
                refine g_region ?_
                refine l_of (s_val (v := .int .i64 0) (wt0 rfl) rfl rfl (x_assign rfl rfl) ?_)
                refine g_nil ?_
                refine g_then ?_
                refine g_ret ?_
                refine fin_ret [.tmp 6] [.int .i64 0] rfl ⟨rfl, trivial⟩ ?_
                have H68 := S.famIn (e := 71) (enc := Tk.cells) (gs := adr rows) (tk := (upd tk y (⟨(tk y).name, 0, 0, (tk y).ans, (tk y).told || decide (ev = 2)⟩ : Tk))) (x := y) (a := (⟨(tk y).name, 0, 0, true, false⟩ : Tk)) (H67.takes [0, 1, 3, 4, 5, 6] (by decide)) hy
                rw [upd_upd] at H68
                replace H68 := S.famPerm H68 (adr_front y rows).symm
                have eb : (begun || decide (ev = 1)) = (decide ((ev : Int) = 1)) := by simp [hb45, hb53, hb65]
                have ed : (dn && !decide (ev = 3)) = (!decide ((ev : Int) = 3)) := by simp [hb45, hb53, hb65]
                exact .inr (.inr (.inr ⟨by omega, by omega, hl0, hb45, rfl, by rw [eb, ed]; exact H68.takes [1, 2, 3, 0, 4] (by decide)⟩))
              · skip
                refine l_of (s_not (wn1 rfl rfl rfl rfl hb65) rfl rfl ?_)
                refine l_of (s_not (wn1 rfl rfl rfl rfl hb65) rfl rfl ?_)
                refine l_of (s_not (wn1 rfl rfl rfl rfl hb65) rfl rfl ?_)
                refine l_of (s_val (v := .bool false) (wt0 rfl) rfl rfl (x_pick_f rfl rfl hb65 rfl) ?_)
                refine l_of (s_val (v := .pointer (some ⟨g, 0, none⟩)) (wt0 rfl) rfl rfl (x_nilCheck rfl rfl) ?_)
                refine l_of (s_val (v := .pointer (some ⟨g, 8, none⟩)) (wt0 rfl) rfl rfl (x_fieldAddr rfl rfl fo64_7 rfl) ?_)
                refine l_of (s_store H64 3 (wt0 rfl) rfl rfl rfl rfl rfl sz4 rfl rfl (cs' := #[.pointer none, .int .i64 0, .slice P nr C, mp, .int .i64 n, .int .i64 (n + iv), .bool (decide ((ev : Int) = 1)), .bool whole, .bool false, .bool stopped]) rfl ?_)
                intro wq69 H70
                refine g_nil ?_
                refine g_then ?_
                refine g_weak [] trivial ?_
                refine g_seq ?_
                refine g_region ?_
                refine l_of (s_val (v := .int .i64 0) (wt0 rfl) rfl rfl (x_assign rfl rfl) ?_)
                refine g_nil ?_
                refine g_then ?_
                refine g_ret ?_
                refine fin_ret [.tmp 6] [.int .i64 0] rfl ⟨rfl, trivial⟩ ?_
                have H71 := S.famIn (e := 71) (enc := Tk.cells) (gs := adr rows) (tk := (upd tk y (⟨(tk y).name, 0, 0, (tk y).ans, (tk y).told || decide (ev = 2)⟩ : Tk))) (x := y) (a := (⟨(tk y).name, 0, 0, true, false⟩ : Tk)) (H70.takes [0, 1, 3, 4, 5, 6] (by decide)) hy
                rw [upd_upd] at H71
                replace H71 := S.famPerm H71 (adr_front y rows).symm
                have eb : (begun || decide (ev = 1)) = (decide ((ev : Int) = 1)) := by simp [hb45, hb53, hb65]
                have ed : (dn && !decide (ev = 3)) = (false) := by simp [hb45, hb53, hb65]
                exact .inr (.inr (.inr ⟨by omega, by omega, hl0, hb45, rfl, by rw [eb, ed]; exact H71.takes [1, 2, 3, 0, 4] (by decide)⟩))
set_option maxRecDepth 20000 in
set_option maxHeartbeats 4000000 in
set_option maxRecDepth 20000 in
set_option maxHeartbeats 4000000 in
theorem answer_0 {g nr C : Nat} {P : Option Addr} {mp : Value} {ev now til n iv : Int} {begun whole dn stopped : Bool}  (w : World) (HS : S w [Ob g (.cells #[.pointer none, .int .i64 ev, .slice P nr C, mp, .int .i64 now, .int .i64 til, .bool begun, .bool whole, .bool dn, .bool stopped] 64 (0, 0))]) : Calls Try.prog 15 #[.pointer (some ⟨g, 0, none⟩), .int .i64 n, .int .i64 iv] w fun e w' => e = .returned (.int .i64 (if iv < 1 ∨ 100000000 < iv then 7 else if tellS now n = 0 then 8 else tellS now n)) ∧ S w' ([Ob g (.cells #[.pointer none, .int .i64 ev, .slice P nr C, mp, .int .i64 now, .int .i64 til, .bool begun, .bool whole, .bool dn, .bool stopped] 64 (0, 0))] ++ [Old w (fps [Ob g (.cells #[.pointer none, .int .i64 ev, .slice P nr C, mp, .int .i64 now, .int .i64 til, .bool begun, .bool whole, .bool dn, .bool stopped] 64 (0, 0))])]) := by
  have H00 := HS.beginI
  have H0 : S w ([Ob g (.cells #[.pointer none, .int .i64 ev, .slice P nr C, mp, .int .i64 now, .int .i64 til, .bool begun, .bool whole, .bool dn, .bool stopped] 64 (0, 0)), Old w (fps [Ob g (.cells #[.pointer none, .int .i64 ev, .slice P nr C, mp, .int .i64 now, .int .i64 til, .bool begun, .bool whole, .bool dn, .bool stopped] 64 (0, 0))])]) := H00
  refine enter 105 Try.func15 rfl rfl rfl ?_
  refine g_weak [(0, .pointer (some ⟨g, 0, none⟩)), (1, .int .i64 n), (2, .int .i64 iv)] ⟨rfl, rfl, rfl, trivial⟩ ?_
  refine g_seq ?_
  refine g_region ?_
  refine l_of (s_val (v := .int .i64 0) (wt0 rfl) rfl rfl (x_assign rfl rfl) ?_)
  refine g_nil ?_
  refine g_then ?_
  refine g_seq ?_
  refine g_block ?_
  refine g_seq ?_
  refine g_region ?_
  refine l_of (s_val (v := .pointer (some ⟨g, 0, none⟩)) (wt0 rfl) rfl rfl (x_move rfl rfl) ?_)
  refine l_of (s_val (v := .bool false) (wt0 rfl) rfl rfl (x_bin rfl rfl rfl (b_eqN (r := false) Try.underlying26 rfl)) ?_)
  refine l_of (s_val (v := .bool false) (wt0 rfl) rfl rfl (x_assign rfl rfl) ?_)
  refine g_nil ?_
  refine g_then ?_
  refine g_cond_f rfl rfl ?_
  refine g_seq ?_
  refine g_region ?_
  refine l_of (s_val (v := .int .i64 iv) (wt0 rfl) rfl rfl (x_move rfl rfl) ?_)
  refine l_of (s_val (v := .bool (decide ((iv : Int) < 1))) (wt0 rfl) rfl rfl (x_bin rfl rfl rfl b_lss) ?_)
  refine l_of (s_val (v := .bool (decide ((iv : Int) < 1))) (wt0 rfl) rfl rfl (x_move rfl rfl) ?_)
  by_cases hb1 : (iv : Int) < 1
  · skip
    refine l_of (s_not (wn1 rfl rfl rfl rfl (decide_eq_true hb1)) rfl rfl ?_)
    refine l_of (s_not (wn1 rfl rfl rfl rfl (decide_eq_true hb1)) rfl rfl ?_)
    refine l_of (s_val (v := .bool true) (wt0 rfl) rfl rfl (x_pick_t rfl rfl (decide_eq_true hb1) rfl) ?_)
    refine l_of (s_val (v := .bool true) (wt0 rfl) rfl rfl (x_assign rfl rfl) ?_)
    refine g_nil ?_
    refine g_then ?_
    refine g_cond_t rfl rfl ?_
    refine g_seq ?_
    refine g_region ?_
    refine l_of (s_val (v := .int .i64 7) (wt0 rfl) rfl rfl (x_assign rfl rfl) ?_)
    refine g_nil ?_
    refine g_then ?_
    refine g_weak [(6, .int .i64 7)] ⟨rfl, trivial⟩ ?_
    refine g_ret ?_
    refine g_in_ret ?_
    refine g_then_ret ?_
    refine fin_ret [.tmp 6] [.int .i64 7] rfl ⟨rfl, trivial⟩ ?_
    exact ⟨congrArg (fun z => Ending.returned (.int .i64 z)) (if_pos (by omega)).symm, H0.takes [0, 1] (by decide)⟩
  · skip
    refine l_of (s_val (v := .int .i64 iv) (wt1 rfl rfl rfl rfl (decide_eq_false hb1)) rfl rfl (x_move rfl rfl) ?_)
    refine l_of (s_val (v := .bool (decide ((100000000 : Int) < iv))) (wt1 rfl rfl rfl rfl (decide_eq_false hb1)) rfl rfl (x_bin rfl rfl rfl b_gtr) ?_)
    refine l_of (s_val (v := .bool (decide ((100000000 : Int) < iv))) (wt0 rfl) rfl rfl (x_pick_f rfl rfl (decide_eq_false hb1) rfl) ?_)
    refine l_of (s_val (v := .bool (decide ((100000000 : Int) < iv))) (wt0 rfl) rfl rfl (x_assign rfl rfl) ?_)
    refine g_nil ?_
    refine g_then ?_
    by_cases hb2 : (100000000 : Int) < iv
    · skip
      refine g_cond_t rfl (decide_eq_true hb2) ?_
      refine g_seq ?_
      refine g_region ?_
      refine l_of (s_val (v := .int .i64 7) (wt0 rfl) rfl rfl (x_assign rfl rfl) ?_)
      refine g_nil ?_
      refine g_then ?_
      refine g_weak [(6, .int .i64 7)] ⟨rfl, trivial⟩ ?_
      refine g_ret ?_
      refine g_in_ret ?_
      refine g_then_ret ?_
      refine fin_ret [.tmp 6] [.int .i64 7] rfl ⟨rfl, trivial⟩ ?_
      exact ⟨congrArg (fun z => Ending.returned (.int .i64 z)) (if_pos (by omega)).symm, H0.takes [0, 1] (by decide)⟩
    · skip
      refine g_cond_f rfl (decide_eq_false hb2) ?_
      refine g_skip ?_
      refine g_in ?_
      refine g_then ?_
      refine g_seq ?_
      refine g_region ?_
      refine l_of (s_val (v := .pointer (some ⟨g, 0, none⟩)) (wt0 rfl) rfl rfl (x_move rfl rfl) ?_)
      refine l_of (s_val (v := .int .i64 n) (wt0 rfl) rfl rfl (x_move rfl rfl) ?_)
      refine l_of (s_call (wt0 rfl) (x_call' rfl rfl cl35) (ended_0 _ (H0.takes [0] (by decide))) ?_)
      rintro ee5 wq3 hor6
      rcases hor6 with ⟨rfl, H4⟩
      replace H4 : S wq3 [Ob g (.cells #[.pointer none, .int .i64 ev, .slice P nr C, mp, .int .i64 now, .int .i64 til, .bool begun, .bool whole, .bool dn, .bool stopped] 64 (0, 0)), Old w (fps [Ob g (.cells #[.pointer none, .int .i64 ev, .slice P nr C, mp, .int .i64 now, .int .i64 til, .bool begun, .bool whole, .bool dn, .bool stopped] 64 (0, 0))])] := H0.absorbI (new := [Ob g (.cells #[.pointer none, .int .i64 ev, .slice P nr C, mp, .int .i64 now, .int .i64 til, .bool begun, .bool whole, .bool dn, .bool stopped] 64 (0, 0))]) [0] H4
      refine b_ret rfl rfl ?_
      refine l_of (s_val (v := .tuple #[.agg #[.pointer none, .int .i64 0], .int .i64 ((if tellS now n = 0 then 8 else tellS now n))]) (wt0 rfl) rfl rfl (x_move rfl rfl) ?_)
      refine l_of (s_val (v := .agg #[.pointer none, .int .i64 0]) (wt0 rfl) rfl rfl (x_extract rfl rfl rfl) ?_)
      refine l_of (s_val (v := .int .i64 ((if tellS now n = 0 then 8 else tellS now n))) (wt0 rfl) rfl rfl (x_extract rfl rfl rfl) ?_)
      refine l_of (s_alloc H4 (wt0 rfl) rfl rfl rfl ze61 ?_)
      intro g7 wq8 H9
      refine l_of (s_store H9 0 (wt0 rfl) rfl rfl rfl rfl rfl sz61 rfl rfl (cs' := #[.pointer none, .int .i64 0]) rfl ?_)
      intro wq10 H11
      refine l_of (s_val (v := .int .i64 ((if tellS now n = 0 then 8 else tellS now n))) (wt0 rfl) rfl rfl (x_assign rfl rfl) ?_)
      refine g_nil ?_
      refine g_then ?_
      refine g_weak [(0, .pointer (some ⟨g, 0, none⟩)), (1, .int .i64 n), (2, .int .i64 iv), (7, .pointer (some ⟨g7, 0, none⟩)), (8, .int .i64 ((if tellS now n = 0 then 8 else tellS now n)))] ⟨rfl, rfl, rfl, rfl, rfl, trivial⟩ ?_
      refine g_seq ?_
      refine g_seq ?_
      refine g_region ?_
      refine l_of (s_val (v := .int .i64 ((if tellS now n = 0 then 8 else tellS now n))) (wt0 rfl) rfl rfl (x_move rfl rfl) ?_)
      refine l_of (s_val (v := .bool (!decide (((if tellS now n = 0 then 8 else tellS now n) : Int) = 0))) (wt0 rfl) rfl rfl (x_bin rfl rfl rfl b_neq) ?_)
      refine g_nil ?_
      refine g_then ?_
      refine g_cond_t rfl (nt (by split <;> omega)) ?_
      refine g_seq ?_
      refine g_region ?_
      refine l_of (s_val (v := .int .i64 ((if tellS now n = 0 then 8 else tellS now n))) (wt0 rfl) rfl rfl (x_move rfl rfl) ?_)
      refine l_of (s_val (v := .int .i64 ((if tellS now n = 0 then 8 else tellS now n))) (wt0 rfl) rfl rfl (x_assign rfl rfl) ?_)
      refine g_nil ?_
      refine g_then ?_
      refine g_ret ?_
      refine g_then_ret ?_
      refine fin_ret [.tmp 6] [.int .i64 ((if tellS now n = 0 then 8 else tellS now n))] rfl ⟨rfl, trivial⟩ ?_
      exact ⟨congrArg (fun z => Ending.returned (.int .i64 z)) (if_neg (by omega)).symm, H11.takes [1, 2] (by decide)⟩
end Go.Proofs.Ytibdlnjnomikjaa
