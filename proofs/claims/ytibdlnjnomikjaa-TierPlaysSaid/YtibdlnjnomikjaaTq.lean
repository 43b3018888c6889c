import Derived.Test.YtibdlnjnomikjaaFk
import Derived.Test.YtibdlnjnomikjaaTp
set_option linter.unusedSimpArgs false
set_option linter.unusedVariables false
namespace Go.Proofs.Ytibdlnjnomikjaa
open Go.RowKit

theorem fo64_6 : foO Try.prog 64 6 = some 7 := by kernel_rfl
theorem fo71_1 : foO Try.prog 71 1 = some 1 := by kernel_rfl
theorem sz4 : szO Try.prog 4 = some 1 := by kernel_rfl
theorem ze3 : zeO Try.prog 3 = some (.int .i64 0) := by kernel_rfl
def whenT (ev til : Int) (tk : Nat → Tk) (m : Int) (p : Pl) : Int :=
  if (freeS ev til (tk p.2.2)).2 = true ∧ (m < 0 ∨ (freeS ev til (tk p.2.2)).1 < m) then (freeS ev til (tk p.2.2)).1 else m
def whenF (ev til : Int) (tk : Nat → Tk) (l : List Pl) : Int := l.foldl (whenT ev til tk) (-1)
theorem whenF_snoc {ev til : Int} {tk : Nat → Tk} {l : List Pl} {p : Pl} : whenF ev til tk (l ++ [p]) = whenT ev til tk (whenF ev til tk l) p := by
  unfold whenF; rw [List.foldl_append]; rfl
def zeroT (t : Tk) : Tk := ⟨t.name, 0, 0, false, false⟩
def startF (tk : Nat → Tk) (l : List Pl) : Nat → Tk := l.foldl (fun f p => upd f p.2.2 (zeroT (f p.2.2))) tk
theorem startF_snoc {tk : Nat → Tk} {l : List Pl} {p : Pl} : startF tk (l ++ [p]) = upd (startF tk l) p.2.2 (zeroT (startF tk l p.2.2)) := by
  unfold startF; rw [List.foldl_append]; rfl
theorem startF_at : ∀ {l : List Pl} {tk : Nat → Tk} {y : Nat}, (tk y = zeroT (tk y) ∨ ∃ p ∈ l, p.2.2 = y) → startF tk l y = zeroT (tk y)
  | [], tk, y, h => by
    rcases h with h | ⟨_, h, _⟩
    · exact h
    · cases h
  | p :: l, tk, y, h => by
    show startF (upd tk p.2.2 (zeroT (tk p.2.2))) l y = _
    by_cases e1 : y = p.2.2
    · subst e1
      rw [startF_at (.inl (by rw [upd_same]; rfl)), upd_same]; rfl
    · rw [startF_at (tk := upd tk p.2.2 (zeroT (tk p.2.2)))]
      · rw [upd_ne e1]
      · rcases h with h | ⟨q, h, h2⟩
        · left; rw [upd_ne e1]; exact h
        · rcases List.mem_cons.1 h with rfl | h
          · exact absurd h2.symm e1
          · exact .inr ⟨q, h, h2⟩
theorem adr_flat {rows : Rws} {y : Nat} (h : y ∈ adr rows) : ∃ p ∈ flatF 0 (lsOf rows), p.2.2 = y := by
  obtain ⟨r, h1, h2⟩ := List.mem_flatten.1 h
  obtain ⟨i, hi⟩ := List.getElem?_of_mem h1
  obtain ⟨k, hk⟩ := List.getElem?_of_mem h2
  exact ⟨(i, k, y), mem_flatF.2 ⟨Nat.zero_le _, r, hi, hk⟩, rfl⟩
set_option maxRecDepth 20000 in
set_option maxHeartbeats 4000000 in
set_option maxRecDepth 20000 in
set_option maxHeartbeats 4000000 in
theorem when_s {g nr C : Nat} {P : Option Addr} {mp : Value} {ev now til : Int} {begun whole dn stopped : Bool} {rows : Rws} {tk : Nat → Tk} {n : Int} (hnr : nr = rows.length) (hnr2 : nr ≤ 1000) (hrl : ∀ r ∈ rows, r.l.length ≤ 1000)  (w : World) (HS : S w [Ob g (.cells #[.pointer none, .int .i64 ev, .slice P nr C, mp, .int .i64 now, .int .i64 til, .bool begun, .bool whole, .bool dn, .bool stopped] 64 (0, 0)), Rw 68 1 P nr C (rosV rows), RowsI 59 1 ptL rows, Fam 71 Tk.cells (adr rows) tk]) : Calls Try.prog 10 #[.pointer (some ⟨g, 0, none⟩), .int .i64 n] w fun e w' => (tellS now n ≠ 0 ∧ e = .returned (.tuple #[.int .i64 0, .int .i64 (tellS now n)]) ∧ S w' ([Ob g (.cells #[.pointer none, .int .i64 ev, .slice P nr C, mp, .int .i64 now, .int .i64 til, .bool begun, .bool whole, .bool dn, .bool stopped] 64 (0, 0)), Rw 68 1 P nr C (rosV rows), RowsI 59 1 ptL rows, Fam 71 Tk.cells (adr rows) tk] ++ [Old w (fps [Ob g (.cells #[.pointer none, .int .i64 ev, .slice P nr C, mp, .int .i64 now, .int .i64 til, .bool begun, .bool whole, .bool dn, .bool stopped] 64 (0, 0)), Rw 68 1 P nr C (rosV rows), RowsI 59 1 ptL rows, Fam 71 Tk.cells (adr rows) tk])])) ∨ (tellS now n = 0 ∧ ((whenF (evS begun dn stopped) til tk (flatF 0 (lsOf rows))) < 0 ∨ 1000000000 < (whenF (evS begun dn stopped) til tk (flatF 0 (lsOf rows)))) ∧ e = .returned (.tuple #[.int .i64 0, .int .i64 8]) ∧ S w' ([Ob g (.cells #[.pointer none, .int .i64 ev, .slice P nr C, mp, .int .i64 now, .int .i64 til, .bool begun, .bool whole, .bool dn, .bool stopped] 64 (0, 0)), Rw 68 1 P nr C (rosV rows), RowsI 59 1 ptL rows, Fam 71 Tk.cells (adr rows) tk] ++ [Old w (fps [Ob g (.cells #[.pointer none, .int .i64 ev, .slice P nr C, mp, .int .i64 now, .int .i64 til, .bool begun, .bool whole, .bool dn, .bool stopped] 64 (0, 0)), Rw 68 1 P nr C (rosV rows), RowsI 59 1 ptL rows, Fam 71 Tk.cells (adr rows) tk])])) ∨ (tellS now n = 0 ∧ 0 ≤ (whenF (evS begun dn stopped) til tk (flatF 0 (lsOf rows))) ∧ (whenF (evS begun dn stopped) til tk (flatF 0 (lsOf rows))) ≤ 1000000000 ∧ e = .returned (.tuple #[.int .i64 (max (whenF (evS begun dn stopped) til tk (flatF 0 (lsOf rows))) n), .int .i64 0]) ∧ S w' ([Ob g (.cells #[.pointer none, .int .i64 ev, .slice P nr C, mp, .int .i64 n, .int .i64 til, .bool begun, .bool whole, .bool dn, .bool stopped] 64 (0, 0)), Rw 68 1 P nr C (rosV rows), RowsI 59 1 ptL rows, Fam 71 Tk.cells (adr rows) tk] ++ [Old w (fps [Ob g (.cells #[.pointer none, .int .i64 ev, .slice P nr C, mp, .int .i64 now, .int .i64 til, .bool begun, .bool whole, .bool dn, .bool stopped] 64 (0, 0)), Rw 68 1 P nr C (rosV rows), RowsI 59 1 ptL rows, Fam 71 Tk.cells (adr rows) tk])])) := by
 have H0 := HS.beginI
 refine enter_m 58 Try.func10 rfl rfl rfl ?_
 have hL : ¬ LetsOut (bodyPostM (WF none) 9 Try.prog Try.f10 fun e w' => (tellS now n ≠ 0 ∧ e = .returned (.tuple #[.int .i64 0, .int .i64 (tellS now n)]) ∧ S w' ([Ob g (.cells #[.pointer none, .int .i64 ev, .slice P nr C, mp, .int .i64 now, .int .i64 til, .bool begun, .bool whole, .bool dn, .bool stopped] 64 (0, 0)), Rw 68 1 P nr C (rosV rows), RowsI 59 1 ptL rows, Fam 71 Tk.cells (adr rows) tk] ++ [Old w (fps [Ob g (.cells #[.pointer none, .int .i64 ev, .slice P nr C, mp, .int .i64 now, .int .i64 til, .bool begun, .bool whole, .bool dn, .bool stopped] 64 (0, 0)), Rw 68 1 P nr C (rosV rows), RowsI 59 1 ptL rows, Fam 71 Tk.cells (adr rows) tk])])) ∨ (tellS now n = 0 ∧ ((whenF (evS begun dn stopped) til tk (flatF 0 (lsOf rows))) < 0 ∨ 1000000000 < (whenF (evS begun dn stopped) til tk (flatF 0 (lsOf rows)))) ∧ e = .returned (.tuple #[.int .i64 0, .int .i64 8]) ∧ S w' ([Ob g (.cells #[.pointer none, .int .i64 ev, .slice P nr C, mp, .int .i64 now, .int .i64 til, .bool begun, .bool whole, .bool dn, .bool stopped] 64 (0, 0)), Rw 68 1 P nr C (rosV rows), RowsI 59 1 ptL rows, Fam 71 Tk.cells (adr rows) tk] ++ [Old w (fps [Ob g (.cells #[.pointer none, .int .i64 ev, .slice P nr C, mp, .int .i64 now, .int .i64 til, .bool begun, .bool whole, .bool dn, .bool stopped] 64 (0, 0)), Rw 68 1 P nr C (rosV rows), RowsI 59 1 ptL rows, Fam 71 Tk.cells (adr rows) tk])])) ∨ (tellS now n = 0 ∧ 0 ≤ (whenF (evS begun dn stopped) til tk (flatF 0 (lsOf rows))) ∧ (whenF (evS begun dn stopped) til tk (flatF 0 (lsOf rows))) ≤ 1000000000 ∧ e = .returned (.tuple #[.int .i64 (max (whenF (evS begun dn stopped) til tk (flatF 0 (lsOf rows))) n), .int .i64 0]) ∧ S w' ([Ob g (.cells #[.pointer none, .int .i64 ev, .slice P nr C, mp, .int .i64 n, .int .i64 til, .bool begun, .bool whole, .bool dn, .bool stopped] 64 (0, 0)), Rw 68 1 P nr C (rosV rows), RowsI 59 1 ptL rows, Fam 71 Tk.cells (adr rows) tk] ++ [Old w (fps [Ob g (.cells #[.pointer none, .int .i64 ev, .slice P nr C, mp, .int .i64 now, .int .i64 til, .bool begun, .bool whole, .bool dn, .bool stopped] 64 (0, 0)), Rw 68 1 P nr C (rosV rows), RowsI 59 1 ptL rows, Fam 71 Tk.cells (adr rows) tk])]))) := by
  rintro ⟨_, _, h⟩
  simp only [bodyPostM, reduceCtorEq, false_and, and_false, exists_false, or_false, or_self, exists_const] at h
 refine g_weak [(0, .pointer (some ⟨g, 0, none⟩)), (1, .int .i64 n)] ⟨rfl, rfl, trivial⟩ ?_
 refine R.g_seq ?_
 refine R.g_region ?_
 refine R.l_of rfl (fun h => hL h) (s_box H0 (wt0 rfl) rfl rfl rfl rfl ?_)
 intro g1 wq2 H3
 refine R.l_of rfl (fun h => hL h) (s_val (v := .int .i64 0) (wt0 rfl) rfl rfl (x_assign rfl rfl) ?_)
 refine R.l_of rfl (fun h => hL h) (s_val (v := .int .i64 0) (wt0 rfl) rfl rfl (x_assign rfl rfl) ?_)
 refine R.g_nil ?_
 refine g_then ?_
 refine R.g_seq ?_
 refine R.g_seq ?_
 refine R.g_region ?_
 refine R.l_of rfl (fun h => hL h) (s_val (v := .pointer (some ⟨g, 0, none⟩)) (wt0 rfl) rfl rfl (x_load1 H3 0 rfl rfl Try.underlying26 rfl rfl rfl) ?_)
 refine R.l_of rfl (fun h => hL h) (s_val (v := .int .i64 n) (wt0 rfl) rfl rfl (x_move rfl rfl) ?_)
 refine R.l_of rfl (fun h => hL h) (s_call (wt0 rfl) (x_call' rfl rfl cl31) (tell_s  _ (H3.takes [1] (by decide))) ?_)
 rintro _ wq4 ⟨rfl, H5⟩
 replace H5 : S wq4 [Ob g (.cells #[.pointer none, .int .i64 ev, .slice P nr C, mp, .int .i64 now, .int .i64 til, .bool begun, .bool whole, .bool dn, .bool stopped] 64 (0, 0)), Ob g1 (.cells #[.pointer (some ⟨g, 0, none⟩)] 26 (0, 0)), Rw 68 1 P nr C (rosV rows), RowsI 59 1 ptL rows, Fam 71 Tk.cells (adr rows) tk, Old w (fps [Ob g (.cells #[.pointer none, .int .i64 ev, .slice P nr C, mp, .int .i64 now, .int .i64 til, .bool begun, .bool whole, .bool dn, .bool stopped] 64 (0, 0)), Rw 68 1 P nr C (rosV rows), RowsI 59 1 ptL rows, Fam 71 Tk.cells (adr rows) tk])] := H3.absorbI (new := [Ob g (.cells #[.pointer none, .int .i64 ev, .slice P nr C, mp, .int .i64 now, .int .i64 til, .bool begun, .bool whole, .bool dn, .bool stopped] 64 (0, 0))]) [1] H5
 refine b_ret rfl rfl ?_
 refine R.l_of rfl (fun h => hL h) (s_val (v := .int .i64 ((tellS now n))) (wt0 rfl) rfl rfl (x_assign rfl rfl) ?_)
 refine R.g_nil ?_
 refine g_then ?_
 refine R.g_seq ?_
 refine R.g_region ?_
 refine R.l_of rfl (fun h => hL h) (s_val (v := .int .i64 ((tellS now n))) (wt0 rfl) rfl rfl (x_move rfl rfl) ?_)
 refine R.l_of rfl (fun h => hL h) (s_val (v := .bool (!decide (((tellS now n) : Int) = 0))) (wt0 rfl) rfl rfl (x_bin rfl rfl rfl b_neq) ?_)
 refine R.g_nil ?_
 refine g_then ?_
 by_cases hb6 : ((tellS now n) : Int) = 0
 ·
  have hl0 := hb6
  refine R.g_cond_f rfl (nf hb6) ?_
  refine R.g_skip ?_
  refine g_then ?_
  refine R.g_seq ?_
  refine R.g_seq ?_
  refine R.g_region ?_
  refine R.l_of rfl (fun h => hL h) (s_val (v := .pointer (some ⟨g, 0, none⟩)) (wt0 rfl) rfl rfl (x_load1 H5 1 rfl rfl Try.underlying26 rfl rfl rfl) ?_)
  refine R.l_of rfl (fun h => hL h) (s_val (v := .pointer (some ⟨g, 0, none⟩)) (wt0 rfl) rfl rfl (x_nilCheck rfl rfl) ?_)
  refine R.l_of rfl (fun h => hL h) (s_val (v := .pointer (some ⟨g, 0, none⟩)) (wt0 rfl) rfl rfl (x_fieldAddr rfl rfl fo64_0 rfl) ?_)
  refine R.l_of rfl (fun h => hL h) (s_val (v := .pointer (some ⟨g, 0, none⟩)) (wt0 rfl) rfl rfl (x_fieldAddr rfl rfl fo61_0 rfl) ?_)
  refine R.l_of rfl (fun h => hL h) (s_val (v := .pointer none) (wt0 rfl) rfl rfl (x_load1 H5 0 rfl rfl Try.underlying59 rfl rfl rfl) ?_)
  refine R.l_of rfl (fun h => hL h) (s_val (v := .bool false) (wt0 rfl) rfl rfl (x_bin rfl rfl rfl (b_neN (r := true) Try.underlying59 rfl)) ?_)
  refine R.g_nil ?_
  refine g_then ?_
  refine g_weak [(1, .int .i64 n), (2, .pointer (some ⟨g1, 0, none⟩)), (4, .int .i64 0), (5, .int .i64 0), (23, .bool false)] ⟨rfl, rfl, rfl, rfl, rfl, trivial⟩ ?_
  refine R.g_cond_f rfl rfl ?_
  refine R.g_skip ?_
  refine g_then ?_
  refine R.g_seq ?_
  refine R.g_region ?_
  refine R.l_of rfl (fun h => hL h) (s_alloc H5 (wt0 rfl) rfl rfl rfl ze3 ?_)
  intro g7 wq8 H9
  refine R.l_of rfl (fun h => hL h) (s_store H9 0 (wt0 rfl) rfl rfl rfl rfl rfl sz3 rfl rfl (cs' := #[.int .i64 (-1)]) rfl ?_)
  intro wq10 H11
  refine R.g_nil ?_
  refine g_then ?_
  refine R.g_seq ?_
  refine R.g_seq ?_
  refine R.g_region ?_
  refine R.l_of rfl (fun h => hL h) (s_val (v := .pointer (some ⟨g, 0, none⟩)) (wt0 rfl) rfl rfl (x_load1 H11 2 rfl rfl Try.underlying26 rfl rfl rfl) ?_)
  refine R.l_of rfl (fun h => hL h) (s_call (wt0 rfl) (x_call' rfl rfl cl32) (all_s _ _) ?_)
  rintro _ wq13 ⟨b12, rfl, H14⟩
  replace H14 : S wq13 [Ob b12 (.cells #[.pointer (some ⟨g, 0, none⟩)] 26 (0, 0)), Ob g7 (.cells #[.int .i64 (-1)] 3 (0, 0)), Ob g (.cells #[.pointer none, .int .i64 ev, .slice P nr C, mp, .int .i64 now, .int .i64 til, .bool begun, .bool whole, .bool dn, .bool stopped] 64 (0, 0)), Ob g1 (.cells #[.pointer (some ⟨g, 0, none⟩)] 26 (0, 0)), Rw 68 1 P nr C (rosV rows), RowsI 59 1 ptL rows, Fam 71 Tk.cells (adr rows) tk, Old w (fps [Ob g (.cells #[.pointer none, .int .i64 ev, .slice P nr C, mp, .int .i64 now, .int .i64 til, .bool begun, .bool whole, .bool dn, .bool stopped] 64 (0, 0)), Rw 68 1 P nr C (rosV rows), RowsI 59 1 ptL rows, Fam 71 Tk.cells (adr rows) tk])] := H11.absorb (new := [Ob b12 (.cells #[.pointer (some ⟨g, 0, none⟩)] 26 (0, 0))]) H14
  refine b_ret rfl rfl ?_
  refine R.g_nil ?_
  refine g_then ?_
  refine R.g_block ?_
  have H15 := S.base3 (H14.takes [0, 4, 5, 1, 2, 3, 6, 7] (by decide))
  refine g_rangeW (α := Pl) (ι := Unit) (encs := encT) (base := Big [Ob b12 (.cells #[.pointer (some ⟨g, 0, none⟩)] 26 (0, 0)), Rw 68 1 P nr C (rosV rows), RowsI 59 1 ptL rows]) (by omega) rfl cl57 (all_it hnr hnr2 hrl) (fun _ => rfl) rfl (fun pre Lx => (True) ∧ Lx = [Ob g7 (.cells #[.int .i64 ((whenF (evS begun dn stopped) til tk pre))] 3 (0, 0)), Ob g (.cells #[.pointer none, .int .i64 ev, .slice P nr C, mp, .int .i64 now, .int .i64 til, .bool begun, .bool whole, .bool dn, .bool stopped] 64 (0, 0)), Ob g1 (.cells #[.pointer (some ⟨g, 0, none⟩)] 26 (0, 0)), Fam 71 Tk.cells (adr rows) tk, Old w (fps [Ob g (.cells #[.pointer none, .int .i64 ev, .slice P nr C, mp, .int .i64 now, .int .i64 til, .bool begun, .bool whole, .bool dn, .bool stopped] 64 (0, 0)), Rw 68 1 P nr C (rosV rows), RowsI 59 1 ptL rows, Fam 71 Tk.cells (adr rows) tk])]) (fun pre Lx => False) (fun p ia => [(2, .pointer (some ⟨g1, 0, none⟩)), (7, .pointer (some ⟨g7, 0, none⟩)), (9, .pointer (some ⟨p.2.2, 0, none⟩))]) (fun p ia => []) (by rintro pre Lx W ⟨_, rfl⟩ hS -; exact hS.cell (k := 1) rfl rfl) ⟨trivial, rfl⟩ H15 ?_ ?_ ?_ ?_
  ·
   rintro l1 p Ly W16 H17
   have hL : ¬ LetsOut (fun (_ : Exit) (_ : Act) (_ : World) => False) := fun ⟨_, _, h⟩ => h
   refine g_weak [(2, .pointer (some ⟨g1, 0, none⟩)), (7, .pointer (some ⟨g7, 0, none⟩)), (27, .pointer (some ⟨p.2.2, 0, none⟩))] ⟨rfl, rfl, rfl, trivial⟩ ?_
   refine R.g_region ?_
   refine R.l_of rfl (fun h => hL h) (s_val (v := .pointer (some ⟨p.2.2, 0, none⟩)) (wt0 rfl) rfl rfl (x_assign rfl rfl) ?_)
   refine R.g_nil ?_
   refine g_then ?_
   exact rw_assign () ⟨rfl, rfl, rfl, trivial⟩ H17
  ·
   rintro l1 pr ⟨i, k, x⟩ ia II Kx _ W18 ⟨hJ, rfl⟩ ⟨post, hpost⟩ H19
   have hx : x ∈ adr rows := mem_adr (p := (i, k, x)) (by rw [hpost]; simp)
   have H20 := S.unbig (H19.takes [3, 0, 1, 2, 4, 5, 6, 7, 8] (by decide))
   have H21 := S.famOut (H20.takes [6, 0, 1, 2, 3, 4, 5, 7] (by decide)) hx
   refine g_weak [(2, .pointer (some ⟨g1, 0, none⟩)), (7, .pointer (some ⟨g7, 0, none⟩)), (9, .pointer (some ⟨x, 0, none⟩))] ⟨rfl, rfl, rfl, trivial⟩ ?_
   refine R.g_block ?_
   refine R.g_seq ?_
   refine R.g_region ?_
   refine R.l_of rfl (fun ⟨_, _, h⟩ => h) (s_val (v := .pointer (some ⟨g, 0, none⟩)) (wt0 rfl) rfl rfl (x_load1 H21 7 rfl rfl Try.underlying26 rfl rfl rfl) ?_)
   refine R.l_of rfl (fun ⟨_, _, h⟩ => h) (s_val (v := .pointer (some ⟨x, 0, none⟩)) (wt0 rfl) rfl rfl (x_move rfl rfl) ?_)
   refine R.l_of rfl (fun ⟨_, _, h⟩ => h) (s_call (wt0 rfl) (x_call' rfl rfl cl33) (free_s (t := (tk x)) _ (H21.takes [6, 0] (by decide))) ?_)
   rintro _ wq22 ⟨rfl, H23⟩
   replace H23 : S wq22 [Ob g (.cells #[.pointer none, .int .i64 ev, .slice P nr C, mp, .int .i64 now, .int .i64 til, .bool begun, .bool whole, .bool dn, .bool stopped] 64 (0, 0)), Ob x (.cells #[.string ((tk x).name), .int .i64 ((tk x).failed), .int .i64 ((tk x).after), .bool ((tk x).ans), .bool ((tk x).told)] 71 (0, 0)), Fam 71 Tk.cells ((adr rows).erase x) tk, Big [Ob b12 (.cells #[.pointer (some ⟨g, 0, none⟩)] 26 (0, 0)), Rw 68 1 P nr C (rosV rows), RowsI 59 1 ptL rows], II, Kx, Ob g7 (.cells #[.int .i64 ((whenF (evS begun dn stopped) til tk pr))] 3 (0, 0)), Ob g1 (.cells #[.pointer (some ⟨g, 0, none⟩)] 26 (0, 0)), Old w (fps [Ob g (.cells #[.pointer none, .int .i64 ev, .slice P nr C, mp, .int .i64 now, .int .i64 til, .bool begun, .bool whole, .bool dn, .bool stopped] 64 (0, 0)), Rw 68 1 P nr C (rosV rows), RowsI 59 1 ptL rows, Fam 71 Tk.cells (adr rows) tk])] := H21.absorbI (new := [Ob g (.cells #[.pointer none, .int .i64 ev, .slice P nr C, mp, .int .i64 now, .int .i64 til, .bool begun, .bool whole, .bool dn, .bool stopped] 64 (0, 0)), Ob x (.cells #[.string ((tk x).name), .int .i64 ((tk x).failed), .int .i64 ((tk x).after), .bool ((tk x).ans), .bool ((tk x).told)] 71 (0, 0))]) [6, 0] H23
   refine b_ret rfl rfl ?_
   refine R.l_of rfl (fun ⟨_, _, h⟩ => h) (s_val (v := .tuple #[.int .i64 ((freeS (evS begun dn stopped) til (tk x)).1), .bool ((freeS (evS begun dn stopped) til (tk x)).2)]) (wt0 rfl) rfl rfl (x_move rfl rfl) ?_)
   refine R.l_of rfl (fun ⟨_, _, h⟩ => h) (s_val (v := .int .i64 ((freeS (evS begun dn stopped) til (tk x)).1)) (wt0 rfl) rfl rfl (x_extract rfl rfl rfl) ?_)
   refine R.l_of rfl (fun ⟨_, _, h⟩ => h) (s_val (v := .bool ((freeS (evS begun dn stopped) til (tk x)).2)) (wt0 rfl) rfl rfl (x_extract rfl rfl rfl) ?_)
   refine R.l_of rfl (fun ⟨_, _, h⟩ => h) (s_val (v := .int .i64 ((freeS (evS begun dn stopped) til (tk x)).1)) (wt0 rfl) rfl rfl (x_assign rfl rfl) ?_)
   refine R.l_of rfl (fun ⟨_, _, h⟩ => h) (s_val (v := .bool ((freeS (evS begun dn stopped) til (tk x)).2)) (wt0 rfl) rfl rfl (x_assign rfl rfl) ?_)
   refine R.g_nil ?_
   refine g_then ?_
   refine R.g_seq ?_
   refine R.g_region ?_
   refine R.l_of rfl (fun ⟨_, _, h⟩ => h) (s_val (v := .bool ((freeS (evS begun dn stopped) til (tk x)).2)) (wt0 rfl) rfl rfl (x_move rfl rfl) ?_)
   refine R.l_of rfl (fun ⟨_, _, h⟩ => h) (s_val (v := .bool ((freeS (evS begun dn stopped) til (tk x)).2)) (wt0 rfl) rfl rfl (x_move rfl rfl) ?_)
   rcases Bool.eq_false_or_eq_true ((freeS (evS begun dn stopped) til (tk x)).2) with hb24 | hb24
   ·
    refine R.l_of rfl (fun ⟨_, _, h⟩ => h) (s_val (v := .int .i64 ((whenF (evS begun dn stopped) til tk pr))) (wt1 rfl rfl rfl rfl hb24) rfl rfl (x_load1 H23 6 rfl rfl Try.underlying3 rfl rfl rfl) ?_)
    refine R.l_of rfl (fun ⟨_, _, h⟩ => h) (s_val (v := .bool (decide (((whenF (evS begun dn stopped) til tk pr) : Int) < 0))) (wt1 rfl rfl rfl rfl hb24) rfl rfl (x_bin rfl rfl rfl b_lss) ?_)
    refine R.l_of rfl (fun ⟨_, _, h⟩ => h) (s_val (v := .bool (decide (((whenF (evS begun dn stopped) til tk pr) : Int) < 0))) (wt1 rfl rfl rfl rfl hb24) rfl rfl (x_move rfl rfl) ?_)
    by_cases hb25 : ((whenF (evS begun dn stopped) til tk pr) : Int) < 0
    ·
     refine R.l_of rfl (fun ⟨_, _, h⟩ => h) (s_not (wn1 rfl rfl rfl rfl (decide_eq_true hb25)) rfl rfl ?_)
     refine R.l_of rfl (fun ⟨_, _, h⟩ => h) (s_not (wn1 rfl rfl rfl rfl (decide_eq_true hb25)) rfl rfl ?_)
     refine R.l_of rfl (fun ⟨_, _, h⟩ => h) (s_not (wn1 rfl rfl rfl rfl (decide_eq_true hb25)) rfl rfl ?_)
     refine R.l_of rfl (fun ⟨_, _, h⟩ => h) (s_val (v := .bool true) (wt1 rfl rfl rfl rfl hb24) rfl rfl (x_pick_t rfl rfl (decide_eq_true hb25) rfl) ?_)
     refine R.l_of rfl (fun ⟨_, _, h⟩ => h) (s_val (v := .bool true) (wt0 rfl) rfl rfl (x_pick_t rfl rfl hb24 rfl) ?_)
     refine R.g_nil ?_
     refine g_then ?_
     refine g_weak [(7, .pointer (some ⟨g7, 0, none⟩)), (10, .int .i64 ((freeS (evS begun dn stopped) til (tk x)).1)), (43, .bool true)] ⟨rfl, rfl, rfl, trivial⟩ ?_
     refine R.g_cond_t rfl rfl ?_
     refine R.g_region ?_
     refine R.l_of rfl (fun ⟨_, _, h⟩ => h) (s_val (v := .int .i64 ((freeS (evS begun dn stopped) til (tk x)).1)) (wt0 rfl) rfl rfl (x_move rfl rfl) ?_)
     refine R.l_of rfl (fun ⟨_, _, h⟩ => h) (s_store H23 6 (wt0 rfl) rfl rfl rfl rfl rfl sz3 rfl rfl (cs' := #[.int .i64 ((freeS (evS begun dn stopped) til (tk x)).1)]) rfl ?_)
     intro wq26 H27
     refine R.g_nil ?_
     refine g_in ?_
     have H28 := S.famIn0 (e := 71) (enc := Tk.cells) (gs := adr rows) (tk := tk) (x := x) (H27.takes [1, 2, 0, 3, 4, 5, 6, 7, 8] (by decide)) hx
     have e1 : whenF (evS begun dn stopped) til tk (pr ++ [(i, k, x)]) = (freeS (evS begun dn stopped) til (tk x)).1 := by rw [whenF_snoc]; unfold whenT; simp [hb24, hb25]
     exact rs_next ⟨trivial, rfl⟩ (by rw [e1]; exact H28.takes [2, 3, 4, 5, 1, 6, 0, 7] (by decide))
    ·
     refine R.l_of rfl (fun ⟨_, _, h⟩ => h) (s_val (v := .int .i64 ((freeS (evS begun dn stopped) til (tk x)).1)) (wt1 rfl rfl rfl rfl (decide_eq_false hb25)) rfl rfl (x_move rfl rfl) ?_)
     refine R.l_of rfl (fun ⟨_, _, h⟩ => h) (s_val (v := .int .i64 ((whenF (evS begun dn stopped) til tk pr))) (wt1 rfl rfl rfl rfl (decide_eq_false hb25)) rfl rfl (x_load1 H23 6 rfl rfl Try.underlying3 rfl rfl rfl) ?_)
     refine R.l_of rfl (fun ⟨_, _, h⟩ => h) (s_val (v := .bool (decide (((freeS (evS begun dn stopped) til (tk x)).1 : Int) < (whenF (evS begun dn stopped) til tk pr)))) (wt1 rfl rfl rfl rfl (decide_eq_false hb25)) rfl rfl (x_bin rfl rfl rfl b_lss) ?_)
     refine R.l_of rfl (fun ⟨_, _, h⟩ => h) (s_val (v := .bool (decide (((freeS (evS begun dn stopped) til (tk x)).1 : Int) < (whenF (evS begun dn stopped) til tk pr)))) (wt1 rfl rfl rfl rfl hb24) rfl rfl (x_pick_f rfl rfl (decide_eq_false hb25) rfl) ?_)
     refine R.l_of rfl (fun ⟨_, _, h⟩ => h) (s_val (v := .bool (decide (((freeS (evS begun dn stopped) til (tk x)).1 : Int) < (whenF (evS begun dn stopped) til tk pr)))) (wt0 rfl) rfl rfl (x_pick_t rfl rfl hb24 rfl) ?_)
     refine R.g_nil ?_
     refine g_then ?_
     refine g_weak [(7, .pointer (some ⟨g7, 0, none⟩)), (10, .int .i64 ((freeS (evS begun dn stopped) til (tk x)).1)), (43, .bool (decide (((freeS (evS begun dn stopped) til (tk x)).1 : Int) < (whenF (evS begun dn stopped) til tk pr))))] ⟨rfl, rfl, rfl, trivial⟩ ?_
     by_cases hb29 : ((freeS (evS begun dn stopped) til (tk x)).1 : Int) < (whenF (evS begun dn stopped) til tk pr)
     ·
      refine R.g_cond_t rfl (decide_eq_true hb29) ?_
      refine R.g_region ?_
      refine R.l_of rfl (fun ⟨_, _, h⟩ => h) (s_val (v := .int .i64 ((freeS (evS begun dn stopped) til (tk x)).1)) (wt0 rfl) rfl rfl (x_move rfl rfl) ?_)
      refine R.l_of rfl (fun ⟨_, _, h⟩ => h) (s_store H23 6 (wt0 rfl) rfl rfl rfl rfl rfl sz3 rfl rfl (cs' := #[.int .i64 ((freeS (evS begun dn stopped) til (tk x)).1)]) rfl ?_)
      intro wq30 H31
      refine R.g_nil ?_
      refine g_in ?_
      have H32 := S.famIn0 (e := 71) (enc := Tk.cells) (gs := adr rows) (tk := tk) (x := x) (H31.takes [1, 2, 0, 3, 4, 5, 6, 7, 8] (by decide)) hx
      have e1 : whenF (evS begun dn stopped) til tk (pr ++ [(i, k, x)]) = (freeS (evS begun dn stopped) til (tk x)).1 := by rw [whenF_snoc]; unfold whenT; simp [hb24, hb25, hb29]
      exact rs_next ⟨trivial, rfl⟩ (by rw [e1]; exact H32.takes [2, 3, 4, 5, 1, 6, 0, 7] (by decide))
     ·
      refine R.g_cond_f rfl (decide_eq_false hb29) ?_
      refine R.g_skip ?_
      refine g_in ?_
      have H33 := S.famIn0 (e := 71) (enc := Tk.cells) (gs := adr rows) (tk := tk) (x := x) (H23.takes [1, 2, 0, 3, 4, 5, 6, 7, 8] (by decide)) hx
      have e1 : whenF (evS begun dn stopped) til tk (pr ++ [(i, k, x)]) = (whenF (evS begun dn stopped) til tk pr) := by rw [whenF_snoc]; unfold whenT; simp [hb24, hb25, hb29]
      exact rs_next ⟨trivial, rfl⟩ (by rw [e1]; exact H33.takes [2, 3, 4, 5, 1, 6, 0, 7] (by decide))
   ·
    refine R.l_of rfl (fun ⟨_, _, h⟩ => h) (s_not (wn1 rfl rfl rfl rfl hb24) rfl rfl ?_)
    refine R.l_of rfl (fun ⟨_, _, h⟩ => h) (s_not (wn1 rfl rfl rfl rfl hb24) rfl rfl ?_)
    refine R.l_of rfl (fun ⟨_, _, h⟩ => h) (s_not (wn1 rfl rfl rfl rfl hb24) rfl rfl ?_)
    refine R.l_of rfl (fun ⟨_, _, h⟩ => h) (s_not (wn2 rfl rfl rfl rfl) rfl rfl ?_)
    refine R.l_of rfl (fun ⟨_, _, h⟩ => h) (s_not (wn2 rfl rfl rfl rfl) rfl rfl ?_)
    refine R.l_of rfl (fun ⟨_, _, h⟩ => h) (s_not (wn2 rfl rfl rfl rfl) rfl rfl ?_)
    refine R.l_of rfl (fun ⟨_, _, h⟩ => h) (s_not (wn1 rfl rfl rfl rfl hb24) rfl rfl ?_)
    refine R.l_of rfl (fun ⟨_, _, h⟩ => h) (s_val (v := .bool false) (wt0 rfl) rfl rfl (x_pick_f rfl rfl hb24 rfl) ?_)
    refine R.g_nil ?_
    refine g_then ?_
    refine g_weak [(7, .pointer (some ⟨g7, 0, none⟩)), (10, .int .i64 ((freeS (evS begun dn stopped) til (tk x)).1)), (43, .bool false)] ⟨rfl, rfl, rfl, trivial⟩ ?_
    refine R.g_cond_f rfl rfl ?_
    refine R.g_skip ?_
    refine g_in ?_
    have H34 := S.famIn0 (e := 71) (enc := Tk.cells) (gs := adr rows) (tk := tk) (x := x) (H23.takes [1, 2, 0, 3, 4, 5, 6, 7, 8] (by decide)) hx
    have e1 : whenF (evS begun dn stopped) til tk (pr ++ [(i, k, x)]) = (whenF (evS begun dn stopped) til tk pr) := by rw [whenF_snoc]; unfold whenT; simp [hb24]
    exact rs_next ⟨trivial, rfl⟩ (by rw [e1]; exact H34.takes [2, 3, 4, 5, 1, 6, 0, 7] (by decide))
  ·
   rintro D xs _ W35 rfl ⟨hJ, rfl⟩ H36
   have H37 := S.unbig (H36.takes [1, 0, 2, 3, 4, 5, 6] (by decide))
   refine g_in ?_
   refine g_then ?_
   refine R.g_seq ?_
   refine R.g_seq ?_
   refine R.g_region ?_
   refine R.l_of rfl (fun h => hL h) (s_val (v := .int .i64 ((whenF (evS begun dn stopped) til tk (flatF 0 (lsOf rows))))) (wt0 rfl) rfl rfl (x_load1 H37 4 rfl rfl Try.underlying3 rfl rfl rfl) ?_)
   refine R.l_of rfl (fun h => hL h) (s_val (v := .bool (decide (((whenF (evS begun dn stopped) til tk (flatF 0 (lsOf rows))) : Int) < 0))) (wt0 rfl) rfl rfl (x_bin rfl rfl rfl b_lss) ?_)
   refine R.l_of rfl (fun h => hL h) (s_val (v := .bool (decide (((whenF (evS begun dn stopped) til tk (flatF 0 (lsOf rows))) : Int) < 0))) (wt0 rfl) rfl rfl (x_move rfl rfl) ?_)
   by_cases hb38 : ((whenF (evS begun dn stopped) til tk (flatF 0 (lsOf rows))) : Int) < 0
   ·
    refine R.l_of rfl (fun h => hL h) (s_not (wn1 rfl rfl rfl rfl (decide_eq_true hb38)) rfl rfl ?_)
    refine R.l_of rfl (fun h => hL h) (s_not (wn1 rfl rfl rfl rfl (decide_eq_true hb38)) rfl rfl ?_)
    refine R.l_of rfl (fun h => hL h) (s_val (v := .bool true) (wt0 rfl) rfl rfl (x_pick_t rfl rfl (decide_eq_true hb38) rfl) ?_)
    refine R.g_nil ?_
    refine g_then ?_
    refine R.g_cond_t rfl rfl ?_
    refine R.g_seq ?_
    refine R.g_region ?_
    refine R.l_of rfl (fun h => hL h) (s_val (v := .int .i64 0) (wt0 rfl) rfl rfl (x_assign rfl rfl) ?_)
    refine R.l_of rfl (fun h => hL h) (s_val (v := .int .i64 8) (wt0 rfl) rfl rfl (x_assign rfl rfl) ?_)
    refine R.g_nil ?_
    refine g_then ?_
    refine g_weak [(4, .int .i64 0), (5, .int .i64 8)] ⟨rfl, rfl, trivial⟩ ?_
    refine R.g_ret ?_
    refine g_then_ret ?_
    refine fin_mark H37 3 rfl [.tmp 4, .tmp 5] [.int .i64 0, .int .i64 8] rfl (fun wq39 H40 => ⟨⟨rfl, rfl, trivial⟩, ?_⟩)
    exact .inr (.inl ⟨hl0, by omega, rfl, H40.takes [5, 1, 2, 7, 8] (by decide)⟩)
   ·
    refine R.l_of rfl (fun h => hL h) (s_val (v := .int .i64 ((whenF (evS begun dn stopped) til tk (flatF 0 (lsOf rows))))) (wt1 rfl rfl rfl rfl (decide_eq_false hb38)) rfl rfl (x_load1 H37 4 rfl rfl Try.underlying3 rfl rfl rfl) ?_)
    refine R.l_of rfl (fun h => hL h) (s_val (v := .bool (decide ((1000000000 : Int) < (whenF (evS begun dn stopped) til tk (flatF 0 (lsOf rows)))))) (wt1 rfl rfl rfl rfl (decide_eq_false hb38)) rfl rfl (x_bin rfl rfl rfl b_gtr) ?_)
    refine R.l_of rfl (fun h => hL h) (s_val (v := .bool (decide ((1000000000 : Int) < (whenF (evS begun dn stopped) til tk (flatF 0 (lsOf rows)))))) (wt0 rfl) rfl rfl (x_pick_f rfl rfl (decide_eq_false hb38) rfl) ?_)
    refine R.g_nil ?_
    refine g_then ?_
    by_cases hb41 : (1000000000 : Int) < (whenF (evS begun dn stopped) til tk (flatF 0 (lsOf rows)))
    ·
     refine R.g_cond_t rfl (decide_eq_true hb41) ?_
     refine R.g_seq ?_
     refine R.g_region ?_
     refine R.l_of rfl (fun h => hL h) (s_val (v := .int .i64 0) (wt0 rfl) rfl rfl (x_assign rfl rfl) ?_)
     refine R.l_of rfl (fun h => hL h) (s_val (v := .int .i64 8) (wt0 rfl) rfl rfl (x_assign rfl rfl) ?_)
     refine R.g_nil ?_
     refine g_then ?_
     refine g_weak [(4, .int .i64 0), (5, .int .i64 8)] ⟨rfl, rfl, trivial⟩ ?_
     refine R.g_ret ?_
     refine g_then_ret ?_
     refine fin_mark H37 3 rfl [.tmp 4, .tmp 5] [.int .i64 0, .int .i64 8] rfl (fun wq42 H43 => ⟨⟨rfl, rfl, trivial⟩, ?_⟩)
     exact .inr (.inl ⟨hl0, by omega, rfl, H43.takes [5, 1, 2, 7, 8] (by decide)⟩)
    ·
     refine R.g_cond_f rfl (decide_eq_false hb41) ?_
     refine R.g_skip ?_
     refine g_then ?_
     refine R.g_seq ?_
     refine R.g_region ?_
     refine R.l_of rfl (fun h => hL h) (s_val (v := .pointer (some ⟨g, 0, none⟩)) (wt0 rfl) rfl rfl (x_load1 H37 6 rfl rfl Try.underlying26 rfl rfl rfl) ?_)
     refine R.l_of rfl (fun h => hL h) (s_val (v := .int .i64 n) (wt0 rfl) rfl rfl (x_move rfl rfl) ?_)
     refine R.l_of rfl (fun h => hL h) (s_val (v := .pointer (some ⟨g, 0, none⟩)) (wt0 rfl) rfl rfl (x_nilCheck rfl rfl) ?_)
     refine R.l_of rfl (fun h => hL h) (s_val (v := .pointer (some ⟨g, 4, none⟩)) (wt0 rfl) rfl rfl (x_fieldAddr rfl rfl fo64_3 rfl) ?_)
     refine R.l_of rfl (fun h => hL h) (s_store H37 5 (wt0 rfl) rfl rfl rfl rfl rfl sz3 rfl rfl (cs' := #[.pointer none, .int .i64 ev, .slice P nr C, mp, .int .i64 n, .int .i64 til, .bool begun, .bool whole, .bool dn, .bool stopped]) rfl ?_)
     intro wq44 H45
     refine R.g_nil ?_
     refine g_then ?_
     refine g_weak [(1, .int .i64 n), (7, .pointer (some ⟨g7, 0, none⟩))] ⟨rfl, rfl, trivial⟩ ?_
     refine R.g_seq ?_
     refine R.g_region ?_
     refine R.l_of rfl (fun h => hL h) (s_val (v := .int .i64 ((whenF (evS begun dn stopped) til tk (flatF 0 (lsOf rows))))) (wt0 rfl) rfl rfl (x_load1 H45 4 rfl rfl Try.underlying3 rfl rfl rfl) ?_)
     refine R.l_of rfl (fun h => hL h) (s_val (v := .int .i64 n) (wt0 rfl) rfl rfl (x_move rfl rfl) ?_)
     refine R.l_of rfl (fun h => hL h) (s_val (v := .int .i64 (max (whenF (evS begun dn stopped) til tk (flatF 0 (lsOf rows))) n)) (wt0 rfl) rfl rfl (x_max rfl rfl rfl) ?_)
     refine R.l_of rfl (fun h => hL h) (s_val (v := .int .i64 (max (whenF (evS begun dn stopped) til tk (flatF 0 (lsOf rows))) n)) (wt0 rfl) rfl rfl (x_assign rfl rfl) ?_)
     refine R.l_of rfl (fun h => hL h) (s_val (v := .int .i64 0) (wt0 rfl) rfl rfl (x_assign rfl rfl) ?_)
     refine R.g_nil ?_
     refine g_then ?_
     refine R.g_ret ?_
     refine fin_mark H45 3 rfl [.tmp 4, .tmp 5] [.int .i64 (max (whenF (evS begun dn stopped) til tk (flatF 0 (lsOf rows))) n), .int .i64 0] rfl (fun wq46 H47 => ⟨⟨rfl, rfl, trivial⟩, ?_⟩)
     exact .inr (.inr ⟨hl0, by omega, by omega, rfl, H47.takes [5, 1, 2, 7, 8] (by decide)⟩)
  · rintro D pr _ W _ h; exact h.elim
 ·
  have hl0 := hb6
  refine R.g_cond_t rfl (nt hb6) ?_
  refine R.g_seq ?_
  refine R.g_region ?_
  refine R.l_of rfl (fun h => hL h) (s_val (v := .int .i64 ((tellS now n))) (wt0 rfl) rfl rfl (x_move rfl rfl) ?_)
  refine R.l_of rfl (fun h => hL h) (s_val (v := .int .i64 0) (wt0 rfl) rfl rfl (x_assign rfl rfl) ?_)
  refine R.l_of rfl (fun h => hL h) (s_val (v := .int .i64 ((tellS now n))) (wt0 rfl) rfl rfl (x_assign rfl rfl) ?_)
  refine R.g_nil ?_
  refine g_then ?_
  refine R.g_ret ?_
  refine g_then_ret ?_
  refine fin_plain [.tmp 4, .tmp 5] [.int .i64 0, .int .i64 ((tellS now n))] rfl ⟨rfl, rfl, trivial⟩ ?_
  exact .inl ⟨hl0, rfl, H5.takes [0, 2, 3, 4, 5] (by decide)⟩
set_option maxRecDepth 20000 in
set_option maxHeartbeats 4000000 in
set_option maxRecDepth 20000 in
set_option maxHeartbeats 4000000 in
theorem when_u {g nr C : Nat} {P : Option Addr} {mp : Value} {ev now til : Int} {begun whole dn stopped : Bool} {n : Int} {y : Nat}  (w : World) (HS : S w [Ob g (.cells #[.pointer (some ⟨y, 0, none⟩), .int .i64 ev, .slice P nr C, mp, .int .i64 now, .int .i64 til, .bool begun, .bool whole, .bool dn, .bool stopped] 64 (0, 0))]) : Calls Try.prog 10 #[.pointer (some ⟨g, 0, none⟩), .int .i64 n] w fun e w' => e = .returned (.tuple #[.int .i64 0, .int .i64 (if tellS now n = 0 then 9 else tellS now n)]) ∧ S w' ([Ob g (.cells #[.pointer (some ⟨y, 0, none⟩), .int .i64 ev, .slice P nr C, mp, .int .i64 now, .int .i64 til, .bool begun, .bool whole, .bool dn, .bool stopped] 64 (0, 0))] ++ [Old w (fps [Ob g (.cells #[.pointer (some ⟨y, 0, none⟩), .int .i64 ev, .slice P nr C, mp, .int .i64 now, .int .i64 til, .bool begun, .bool whole, .bool dn, .bool stopped] 64 (0, 0))])]) := by
 have H0 := HS.beginI
 refine enter 58 Try.func10 rfl rfl rfl ?_
 refine g_weak [(0, .pointer (some ⟨g, 0, none⟩)), (1, .int .i64 n)] ⟨rfl, rfl, trivial⟩ ?_
 refine g_seq ?_
 refine g_region ?_
 refine l_of (s_box H0 (wt0 rfl) rfl rfl rfl rfl ?_)
 intro g1 wq2 H3
 refine l_of (s_val (v := .int .i64 0) (wt0 rfl) rfl rfl (x_assign rfl rfl) ?_)
 refine l_of (s_val (v := .int .i64 0) (wt0 rfl) rfl rfl (x_assign rfl rfl) ?_)
 refine g_nil ?_
 refine g_then ?_
 refine g_seq ?_
 refine g_seq ?_
 refine g_region ?_
 refine l_of (s_val (v := .pointer (some ⟨g, 0, none⟩)) (wt0 rfl) rfl rfl (x_load1 H3 0 rfl rfl Try.underlying26 rfl rfl rfl) ?_)
 refine l_of (s_val (v := .int .i64 n) (wt0 rfl) rfl rfl (x_move rfl rfl) ?_)
 refine l_of (s_call (wt0 rfl) (x_call' rfl rfl cl31) (tell_s  _ (H3.takes [1] (by decide))) ?_)
 rintro _ wq4 ⟨rfl, H5⟩
 replace H5 : S wq4 [Ob g (.cells #[.pointer (some ⟨y, 0, none⟩), .int .i64 ev, .slice P nr C, mp, .int .i64 now, .int .i64 til, .bool begun, .bool whole, .bool dn, .bool stopped] 64 (0, 0)), Ob g1 (.cells #[.pointer (some ⟨g, 0, none⟩)] 26 (0, 0)), Old w (fps [Ob g (.cells #[.pointer (some ⟨y, 0, none⟩), .int .i64 ev, .slice P nr C, mp, .int .i64 now, .int .i64 til, .bool begun, .bool whole, .bool dn, .bool stopped] 64 (0, 0))])] := H3.absorbI (new := [Ob g (.cells #[.pointer (some ⟨y, 0, none⟩), .int .i64 ev, .slice P nr C, mp, .int .i64 now, .int .i64 til, .bool begun, .bool whole, .bool dn, .bool stopped] 64 (0, 0))]) [1] H5
 refine b_ret rfl rfl ?_
 refine l_of (s_val (v := .int .i64 ((tellS now n))) (wt0 rfl) rfl rfl (x_assign rfl rfl) ?_)
 refine g_nil ?_
 refine g_then ?_
 refine g_seq ?_
 refine g_region ?_
 refine l_of (s_val (v := .int .i64 ((tellS now n))) (wt0 rfl) rfl rfl (x_move rfl rfl) ?_)
 refine l_of (s_val (v := .bool (!decide (((tellS now n) : Int) = 0))) (wt0 rfl) rfl rfl (x_bin rfl rfl rfl b_neq) ?_)
 refine g_nil ?_
 refine g_then ?_
 by_cases hb6 : ((tellS now n) : Int) = 0
 ·
  refine g_cond_f rfl (nf hb6) ?_
  refine g_skip ?_
  refine g_then ?_
  refine g_seq ?_
  refine g_seq ?_
  refine g_region ?_
  refine l_of (s_val (v := .pointer (some ⟨g, 0, none⟩)) (wt0 rfl) rfl rfl (x_load1 H5 1 rfl rfl Try.underlying26 rfl rfl rfl) ?_)
  refine l_of (s_val (v := .pointer (some ⟨g, 0, none⟩)) (wt0 rfl) rfl rfl (x_nilCheck rfl rfl) ?_)
  refine l_of (s_val (v := .pointer (some ⟨g, 0, none⟩)) (wt0 rfl) rfl rfl (x_fieldAddr rfl rfl fo64_0 rfl) ?_)
  refine l_of (s_val (v := .pointer (some ⟨g, 0, none⟩)) (wt0 rfl) rfl rfl (x_fieldAddr rfl rfl fo61_0 rfl) ?_)
  refine l_of (s_val (v := .pointer (some ⟨y, 0, none⟩)) (wt0 rfl) rfl rfl (x_load1 H5 0 rfl rfl Try.underlying59 rfl rfl rfl) ?_)
  refine l_of (s_val (v := .bool true) (wt0 rfl) rfl rfl (x_bin rfl rfl rfl (b_neN (r := false) Try.underlying59 rfl)) ?_)
  refine g_nil ?_
  refine g_then ?_
  refine g_weak [(1, .int .i64 n), (2, .pointer (some ⟨g1, 0, none⟩)), (4, .int .i64 0), (5, .int .i64 0), (23, .bool true)] ⟨rfl, rfl, rfl, rfl, rfl, trivial⟩ ?_
  refine g_cond_t rfl rfl ?_
  refine g_seq ?_
  refine g_region ?_
  refine l_of (s_val (v := .int .i64 0) (wt0 rfl) rfl rfl (x_assign rfl rfl) ?_)
  refine l_of (s_val (v := .int .i64 9) (wt0 rfl) rfl rfl (x_assign rfl rfl) ?_)
  refine g_nil ?_
  refine g_then ?_
  refine g_ret ?_
  refine g_then_ret ?_
  refine fin_ret [.tmp 4, .tmp 5] [.int .i64 0, .int .i64 9] rfl ⟨rfl, rfl, trivial⟩ ?_
  exact ⟨by rw [if_pos hb6]; rfl, H5.takes [0, 2] (by decide)⟩
 ·
  refine g_cond_t rfl (nt hb6) ?_
  refine g_seq ?_
  refine g_region ?_
  refine l_of (s_val (v := .int .i64 ((tellS now n))) (wt0 rfl) rfl rfl (x_move rfl rfl) ?_)
  refine l_of (s_val (v := .int .i64 0) (wt0 rfl) rfl rfl (x_assign rfl rfl) ?_)
  refine l_of (s_val (v := .int .i64 ((tellS now n))) (wt0 rfl) rfl rfl (x_assign rfl rfl) ?_)
  refine g_nil ?_
  refine g_then ?_
  refine g_ret ?_
  refine g_then_ret ?_
  refine fin_ret [.tmp 4, .tmp 5] [.int .i64 0, .int .i64 ((tellS now n))] rfl ⟨rfl, rfl, trivial⟩ ?_
  exact ⟨by rw [if_neg hb6]; rfl, H5.takes [0, 2] (by decide)⟩
set_option maxRecDepth 20000 in
set_option maxHeartbeats 4000000 in
set_option maxRecDepth 20000 in
set_option maxHeartbeats 4000000 in
theorem start_s {g nr C : Nat} {P : Option Addr} {cu mp : Value} {ev now til : Int} {begun whole dn : Bool} {rows : Rws} {tk : Nat → Tk} (hnr : nr = rows.length) (hnr2 : nr ≤ 1000) (hrl : ∀ r ∈ rows, r.l.length ≤ 1000)  (w : World) (HS : S w [Ob g (.cells #[cu, .int .i64 ev, .slice P nr C, mp, .int .i64 now, .int .i64 til, .bool begun, .bool whole, .bool dn, .bool true] 64 (0, 0)), Rw 68 1 P nr C (rosV rows), RowsI 59 1 ptL rows, Fam 71 Tk.cells (adr rows) tk]) : Calls Try.prog 16 #[.pointer (some ⟨g, 0, none⟩)] w fun e w' => e = .returned (.int .i64 0) ∧ S w' ([Ob g (.cells #[cu, .int .i64 ev, .slice P nr C, mp, .int .i64 now, .int .i64 0, .bool false, .bool whole, .bool false, .bool false] 64 (0, 0)), Rw 68 1 P nr C (rosV rows), RowsI 59 1 ptL rows, Fam 71 Tk.cells (adr rows) (fun y => zeroT (tk y))] ++ [Old w (fps [Ob g (.cells #[cu, .int .i64 ev, .slice P nr C, mp, .int .i64 now, .int .i64 til, .bool begun, .bool whole, .bool dn, .bool true] 64 (0, 0)), Rw 68 1 P nr C (rosV rows), RowsI 59 1 ptL rows, Fam 71 Tk.cells (adr rows) tk])]) := by
 have H0 := HS.beginI
 refine enter_m 42 Try.func16 rfl rfl rfl ?_
 have hL : ¬ LetsOut (bodyPostM (WF none) 9 Try.prog Try.f16 fun e w' => e = .returned (.int .i64 0) ∧ S w' ([Ob g (.cells #[cu, .int .i64 ev, .slice P nr C, mp, .int .i64 now, .int .i64 0, .bool false, .bool whole, .bool false, .bool false] 64 (0, 0)), Rw 68 1 P nr C (rosV rows), RowsI 59 1 ptL rows, Fam 71 Tk.cells (adr rows) (fun y => zeroT (tk y))] ++ [Old w (fps [Ob g (.cells #[cu, .int .i64 ev, .slice P nr C, mp, .int .i64 now, .int .i64 til, .bool begun, .bool whole, .bool dn, .bool true] 64 (0, 0)), Rw 68 1 P nr C (rosV rows), RowsI 59 1 ptL rows, Fam 71 Tk.cells (adr rows) tk])])) := by
  rintro ⟨_, _, h⟩
  simp only [bodyPostM, reduceCtorEq, false_and, and_false, exists_false, or_false, or_self, exists_const] at h
 refine g_weak [(0, .pointer (some ⟨g, 0, none⟩))] ⟨rfl, trivial⟩ ?_
 refine R.g_seq ?_
 refine R.g_region ?_
 refine R.l_of rfl (fun h => hL h) (s_val (v := .int .i64 0) (wt0 rfl) rfl rfl (x_assign rfl rfl) ?_)
 refine R.g_nil ?_
 refine g_then ?_
 refine R.g_seq ?_
 refine R.g_block ?_
 refine R.g_seq ?_
 refine R.g_region ?_
 refine R.l_of rfl (fun h => hL h) (s_val (v := .pointer (some ⟨g, 0, none⟩)) (wt0 rfl) rfl rfl (x_move rfl rfl) ?_)
 refine R.l_of rfl (fun h => hL h) (s_val (v := .bool false) (wt0 rfl) rfl rfl (x_bin rfl rfl rfl (b_eqN (r := false) Try.underlying26 rfl)) ?_)
 refine R.l_of rfl (fun h => hL h) (s_val (v := .bool false) (wt0 rfl) rfl rfl (x_assign rfl rfl) ?_)
 refine R.g_nil ?_
 refine g_then ?_
 refine R.g_cond_f rfl rfl ?_
 refine R.g_seq ?_
 refine R.g_region ?_
 refine R.l_of rfl (fun h => hL h) (s_val (v := .pointer (some ⟨g, 0, none⟩)) (wt0 rfl) rfl rfl (x_move rfl rfl) ?_)
 refine R.l_of rfl (fun h => hL h) (s_val (v := .pointer (some ⟨g, 0, none⟩)) (wt0 rfl) rfl rfl (x_nilCheck rfl rfl) ?_)
 refine R.l_of rfl (fun h => hL h) (s_val (v := .pointer (some ⟨g, 9, none⟩)) (wt0 rfl) rfl rfl (x_fieldAddr rfl rfl fo64_8 rfl) ?_)
 refine R.l_of rfl (fun h => hL h) (s_val (v := .bool true) (wt0 rfl) rfl rfl (x_load1 H0 0 rfl rfl Try.underlying4 rfl rfl rfl) ?_)
 refine R.l_of rfl (fun h => hL h) (s_val (v := .bool false) (wt0 rfl) rfl rfl (x_not (b := true) rfl rfl) ?_)
 refine R.l_of rfl (fun h => hL h) (s_val (v := .bool false) (wt0 rfl) rfl rfl (x_assign rfl rfl) ?_)
 refine R.g_nil ?_
 refine g_then ?_
 refine R.g_cond_f rfl rfl ?_
 refine R.g_skip ?_
 refine g_in ?_
 refine g_then ?_
 refine R.g_seq ?_
 refine R.g_region ?_
 refine R.l_of rfl (fun h => hL h) (s_val (v := .pointer (some ⟨g, 0, none⟩)) (wt0 rfl) rfl rfl (x_move rfl rfl) ?_)
 refine R.l_of rfl (fun h => hL h) (s_val (v := .pointer (some ⟨g, 0, none⟩)) (wt0 rfl) rfl rfl (x_move rfl rfl) ?_)
 refine R.l_of rfl (fun h => hL h) (s_val (v := .pointer (some ⟨g, 0, none⟩)) (wt0 rfl) rfl rfl (x_move rfl rfl) ?_)
 refine R.l_of rfl (fun h => hL h) (s_val (v := .pointer (some ⟨g, 0, none⟩)) (wt0 rfl) rfl rfl (x_nilCheck rfl rfl) ?_)
 refine R.l_of rfl (fun h => hL h) (s_val (v := .pointer (some ⟨g, 9, none⟩)) (wt0 rfl) rfl rfl (x_fieldAddr rfl rfl fo64_8 rfl) ?_)
 refine R.l_of rfl (fun h => hL h) (s_store H0 0 (wt0 rfl) rfl rfl rfl rfl rfl sz4 rfl rfl (cs' := #[cu, .int .i64 ev, .slice P nr C, mp, .int .i64 now, .int .i64 til, .bool begun, .bool whole, .bool dn, .bool false]) rfl ?_)
 intro wq1 H2
 refine R.l_of rfl (fun h => hL h) (s_val (v := .pointer (some ⟨g, 0, none⟩)) (wt0 rfl) rfl rfl (x_nilCheck rfl rfl) ?_)
 refine R.l_of rfl (fun h => hL h) (s_val (v := .pointer (some ⟨g, 6, none⟩)) (wt0 rfl) rfl rfl (x_fieldAddr rfl rfl fo64_5 rfl) ?_)
 refine R.l_of rfl (fun h => hL h) (s_store H2 0 (wt0 rfl) rfl rfl rfl rfl rfl sz4 rfl rfl (cs' := #[cu, .int .i64 ev, .slice P nr C, mp, .int .i64 now, .int .i64 til, .bool false, .bool whole, .bool dn, .bool false]) rfl ?_)
 intro wq3 H4
 refine R.l_of rfl (fun h => hL h) (s_val (v := .pointer (some ⟨g, 0, none⟩)) (wt0 rfl) rfl rfl (x_nilCheck rfl rfl) ?_)
 refine R.l_of rfl (fun h => hL h) (s_val (v := .pointer (some ⟨g, 5, none⟩)) (wt0 rfl) rfl rfl (x_fieldAddr rfl rfl fo64_4 rfl) ?_)
 refine R.l_of rfl (fun h => hL h) (s_store H4 0 (wt0 rfl) rfl rfl rfl rfl rfl sz3 rfl rfl (cs' := #[cu, .int .i64 ev, .slice P nr C, mp, .int .i64 now, .int .i64 0, .bool false, .bool whole, .bool dn, .bool false]) rfl ?_)
 intro wq5 H6
 refine R.g_nil ?_
 refine g_then ?_
 refine g_weak [(0, .pointer (some ⟨g, 0, none⟩)), (2, .int .i64 0)] ⟨rfl, rfl, trivial⟩ ?_
 refine R.g_seq ?_
 refine R.g_region ?_
 refine R.l_of rfl (fun h => hL h) (s_val (v := .pointer (some ⟨g, 0, none⟩)) (wt0 rfl) rfl rfl (x_move rfl rfl) ?_)
 refine R.l_of rfl (fun h => hL h) (s_val (v := .pointer (some ⟨g, 0, none⟩)) (wt0 rfl) rfl rfl (x_nilCheck rfl rfl) ?_)
 refine R.l_of rfl (fun h => hL h) (s_val (v := .pointer (some ⟨g, 8, none⟩)) (wt0 rfl) rfl rfl (x_fieldAddr rfl rfl fo64_7 rfl) ?_)
 refine R.l_of rfl (fun h => hL h) (s_store H6 0 (wt0 rfl) rfl rfl rfl rfl rfl sz4 rfl rfl (cs' := #[cu, .int .i64 ev, .slice P nr C, mp, .int .i64 now, .int .i64 0, .bool false, .bool whole, .bool false, .bool false]) rfl ?_)
 intro wq7 H8
 refine R.g_nil ?_
 refine g_then ?_
 refine R.g_seq ?_
 refine R.g_seq ?_
 refine R.g_region ?_
 refine R.l_of rfl (fun h => hL h) (s_val (v := .pointer (some ⟨g, 0, none⟩)) (wt0 rfl) rfl rfl (x_move rfl rfl) ?_)
 refine R.l_of rfl (fun h => hL h) (s_call (wt0 rfl) (x_call' rfl rfl cl32) (all_s _ _) ?_)
 rintro _ wq10 ⟨b9, rfl, H11⟩
 replace H11 : S wq10 [Ob b9 (.cells #[.pointer (some ⟨g, 0, none⟩)] 26 (0, 0)), Ob g (.cells #[cu, .int .i64 ev, .slice P nr C, mp, .int .i64 now, .int .i64 0, .bool false, .bool whole, .bool false, .bool false] 64 (0, 0)), Rw 68 1 P nr C (rosV rows), RowsI 59 1 ptL rows, Fam 71 Tk.cells (adr rows) tk, Old w (fps [Ob g (.cells #[cu, .int .i64 ev, .slice P nr C, mp, .int .i64 now, .int .i64 til, .bool begun, .bool whole, .bool dn, .bool true] 64 (0, 0)), Rw 68 1 P nr C (rosV rows), RowsI 59 1 ptL rows, Fam 71 Tk.cells (adr rows) tk])] := H8.absorb (new := [Ob b9 (.cells #[.pointer (some ⟨g, 0, none⟩)] 26 (0, 0))]) H11
 refine b_ret rfl rfl ?_
 refine R.g_nil ?_
 refine g_then ?_
 refine R.g_block ?_
 have H12 := S.base3 (H11.takes [0, 2, 3, 1, 4, 5] (by decide))
 refine g_rangeW (α := Pl) (ι := Unit) (encs := encT) (base := Big [Ob b9 (.cells #[.pointer (some ⟨g, 0, none⟩)] 26 (0, 0)), Rw 68 1 P nr C (rosV rows), RowsI 59 1 ptL rows]) (by omega) rfl cl57 (all_it hnr hnr2 hrl) (fun _ => rfl) rfl (fun pre Lx => (True) ∧ Lx = [Ob g (.cells #[cu, .int .i64 ev, .slice P nr C, mp, .int .i64 now, .int .i64 0, .bool false, .bool whole, .bool false, .bool false] 64 (0, 0)), Fam 71 Tk.cells (adr rows) (startF tk pre), Old w (fps [Ob g (.cells #[cu, .int .i64 ev, .slice P nr C, mp, .int .i64 now, .int .i64 til, .bool begun, .bool whole, .bool dn, .bool true] 64 (0, 0)), Rw 68 1 P nr C (rosV rows), RowsI 59 1 ptL rows, Fam 71 Tk.cells (adr rows) tk])]) (fun pre Lx => False) (fun p ia => [(4, .pointer (some ⟨p.2.2, 0, none⟩))]) (fun p ia => []) (by rintro pre Lx W ⟨_, rfl⟩ hS -; exact hS.cell (k := 0) rfl rfl) ⟨trivial, rfl⟩ H12 ?_ ?_ ?_ ?_
 ·
  rintro l1 p Ly W13 H14
  have hL : ¬ LetsOut (fun (_ : Exit) (_ : Act) (_ : World) => False) := fun ⟨_, _, h⟩ => h
  refine g_weak [(29, .pointer (some ⟨p.2.2, 0, none⟩))] ⟨rfl, trivial⟩ ?_
  refine R.g_region ?_
  refine R.l_of rfl (fun h => hL h) (s_val (v := .pointer (some ⟨p.2.2, 0, none⟩)) (wt0 rfl) rfl rfl (x_assign rfl rfl) ?_)
  refine R.g_nil ?_
  refine g_then ?_
  exact rw_assign () ⟨rfl, trivial⟩ H14
 ·
  rintro l1 pr ⟨i, k, x⟩ ia II Kx _ W15 ⟨hJ, rfl⟩ ⟨post, hpost⟩ H16
  have hx : x ∈ adr rows := mem_adr (p := (i, k, x)) (by rw [hpost]; simp)
  have H17 := S.unbig (H16.takes [3, 0, 1, 2, 4, 5, 6] (by decide))
  have H18 := S.famOut (H17.takes [4, 0, 1, 2, 3, 5] (by decide)) hx
  refine g_weak [(4, .pointer (some ⟨x, 0, none⟩))] ⟨rfl, trivial⟩ ?_
  refine R.g_block ?_
  refine R.g_region ?_
  refine R.l_of rfl (fun ⟨_, _, h⟩ => h) (s_val (v := .pointer (some ⟨x, 0, none⟩)) (wt0 rfl) rfl rfl (x_move rfl rfl) ?_)
  refine R.l_of rfl (fun ⟨_, _, h⟩ => h) (s_val (v := .pointer (some ⟨x, 0, none⟩)) (wt0 rfl) rfl rfl (x_move rfl rfl) ?_)
  refine R.l_of rfl (fun ⟨_, _, h⟩ => h) (s_val (v := .pointer (some ⟨x, 0, none⟩)) (wt0 rfl) rfl rfl (x_move rfl rfl) ?_)
  refine R.l_of rfl (fun ⟨_, _, h⟩ => h) (s_val (v := .pointer (some ⟨x, 0, none⟩)) (wt0 rfl) rfl rfl (x_move rfl rfl) ?_)
  refine R.l_of rfl (fun ⟨_, _, h⟩ => h) (s_val (v := .pointer (some ⟨x, 0, none⟩)) (wt0 rfl) rfl rfl (x_nilCheck rfl rfl) ?_)
  refine R.l_of rfl (fun ⟨_, _, h⟩ => h) (s_val (v := .pointer (some ⟨x, 1, none⟩)) (wt0 rfl) rfl rfl (x_fieldAddr rfl rfl fo71_1 rfl) ?_)
  refine R.l_of rfl (fun ⟨_, _, h⟩ => h) (s_store H18 0 (wt0 rfl) rfl rfl rfl rfl rfl sz3 rfl rfl (cs' := #[.string (((startF tk pr) x).name), .int .i64 0, .int .i64 (((startF tk pr) x).after), .bool (((startF tk pr) x).ans), .bool (((startF tk pr) x).told)]) rfl ?_)
  intro wq19 H20
  refine R.l_of rfl (fun ⟨_, _, h⟩ => h) (s_val (v := .pointer (some ⟨x, 0, none⟩)) (wt0 rfl) rfl rfl (x_nilCheck rfl rfl) ?_)
  refine R.l_of rfl (fun ⟨_, _, h⟩ => h) (s_val (v := .pointer (some ⟨x, 2, none⟩)) (wt0 rfl) rfl rfl (x_fieldAddr rfl rfl fo71_2 rfl) ?_)
  refine R.l_of rfl (fun ⟨_, _, h⟩ => h) (s_store H20 0 (wt0 rfl) rfl rfl rfl rfl rfl sz3 rfl rfl (cs' := #[.string (((startF tk pr) x).name), .int .i64 0, .int .i64 0, .bool (((startF tk pr) x).ans), .bool (((startF tk pr) x).told)]) rfl ?_)
  intro wq21 H22
  refine R.l_of rfl (fun ⟨_, _, h⟩ => h) (s_val (v := .pointer (some ⟨x, 0, none⟩)) (wt0 rfl) rfl rfl (x_nilCheck rfl rfl) ?_)
  refine R.l_of rfl (fun ⟨_, _, h⟩ => h) (s_val (v := .pointer (some ⟨x, 3, none⟩)) (wt0 rfl) rfl rfl (x_fieldAddr rfl rfl fo71_3 rfl) ?_)
  refine R.l_of rfl (fun ⟨_, _, h⟩ => h) (s_store H22 0 (wt0 rfl) rfl rfl rfl rfl rfl sz4 rfl rfl (cs' := #[.string (((startF tk pr) x).name), .int .i64 0, .int .i64 0, .bool false, .bool (((startF tk pr) x).told)]) rfl ?_)
  intro wq23 H24
  refine R.l_of rfl (fun ⟨_, _, h⟩ => h) (s_val (v := .pointer (some ⟨x, 0, none⟩)) (wt0 rfl) rfl rfl (x_nilCheck rfl rfl) ?_)
  refine R.l_of rfl (fun ⟨_, _, h⟩ => h) (s_val (v := .pointer (some ⟨x, 4, none⟩)) (wt0 rfl) rfl rfl (x_fieldAddr rfl rfl fo71_4 rfl) ?_)
  refine R.l_of rfl (fun ⟨_, _, h⟩ => h) (s_store H24 0 (wt0 rfl) rfl rfl rfl rfl rfl sz4 rfl rfl (cs' := #[.string (((startF tk pr) x).name), .int .i64 0, .int .i64 0, .bool false, .bool false]) rfl ?_)
  intro wq25 H26
  refine R.g_nil ?_
  refine g_in ?_
  have H27 := S.famIn (e := 71) (enc := Tk.cells) (gs := adr rows) (tk := (startF tk pr)) (x := x) (a := (zeroT ((startF tk pr) x))) (H26.takes [0, 1, 2, 3, 4, 5, 6] (by decide)) hx
  exact rs_next ⟨trivial, rfl⟩ (by rw [startF_snoc]; exact H27.takes [1, 2, 3, 4, 0, 5] (by decide))
 ·
  rintro D xs _ W28 rfl ⟨hJ, rfl⟩ H29
  have H30 := S.unbig (H29.takes [1, 0, 2, 3, 4] (by decide))
  refine g_in ?_
  refine g_then ?_
  refine R.g_seq ?_
  refine R.g_region ?_
  refine R.l_of rfl (fun h => hL h) (s_val (v := .int .i64 0) (wt0 rfl) rfl rfl (x_assign rfl rfl) ?_)
  refine R.g_nil ?_
  refine g_then ?_
  refine R.g_ret ?_
  refine fin_mark H30 3 rfl [.tmp 2] [.int .i64 0] rfl (fun wq31 H32 => ⟨⟨rfl, trivial⟩, ?_⟩)
  have H33 := H32.takes [4, 1, 2, 5, 6] (by decide)
  exact ⟨rfl, S.famCongr (k := 3) H33 rfl (fun y hy => startF_at (.inr (adr_flat hy)))⟩
 · rintro D pr _ W _ h; exact h.elim
set_option maxRecDepth 20000 in
set_option maxHeartbeats 4000000 in
set_option maxRecDepth 20000 in
set_option maxHeartbeats 4000000 in
theorem start_n {g nr C : Nat} {P : Option Addr} {cu mp : Value} {ev now til : Int} {begun whole dn : Bool}  (w : World) (HS : S w [Ob g (.cells #[cu, .int .i64 ev, .slice P nr C, mp, .int .i64 now, .int .i64 til, .bool begun, .bool whole, .bool dn, .bool false] 64 (0, 0))]) : Calls Try.prog 16 #[.pointer (some ⟨g, 0, none⟩)] w fun e w' => e = .returned (.int .i64 9) ∧ S w' ([Ob g (.cells #[cu, .int .i64 ev, .slice P nr C, mp, .int .i64 now, .int .i64 til, .bool begun, .bool whole, .bool dn, .bool false] 64 (0, 0))] ++ [Old w (fps [Ob g (.cells #[cu, .int .i64 ev, .slice P nr C, mp, .int .i64 now, .int .i64 til, .bool begun, .bool whole, .bool dn, .bool false] 64 (0, 0))])]) := by
 have H0 := HS.beginI
 refine enter 42 Try.func16 rfl rfl rfl ?_
 refine g_weak [(0, .pointer (some ⟨g, 0, none⟩))] ⟨rfl, trivial⟩ ?_
 refine g_seq ?_
 refine g_region ?_
 refine l_of (s_val (v := .int .i64 0) (wt0 rfl) rfl rfl (x_assign rfl rfl) ?_)
 refine g_nil ?_
 refine g_then ?_
 refine g_seq ?_
 refine g_block ?_
 refine g_seq ?_
 refine g_region ?_
 refine l_of (s_val (v := .pointer (some ⟨g, 0, none⟩)) (wt0 rfl) rfl rfl (x_move rfl rfl) ?_)
 refine l_of (s_val (v := .bool false) (wt0 rfl) rfl rfl (x_bin rfl rfl rfl (b_eqN (r := false) Try.underlying26 rfl)) ?_)
 refine l_of (s_val (v := .bool false) (wt0 rfl) rfl rfl (x_assign rfl rfl) ?_)
 refine g_nil ?_
 refine g_then ?_
 refine g_cond_f rfl rfl ?_
 refine g_seq ?_
 refine g_region ?_
 refine l_of (s_val (v := .pointer (some ⟨g, 0, none⟩)) (wt0 rfl) rfl rfl (x_move rfl rfl) ?_)
 refine l_of (s_val (v := .pointer (some ⟨g, 0, none⟩)) (wt0 rfl) rfl rfl (x_nilCheck rfl rfl) ?_)
 refine l_of (s_val (v := .pointer (some ⟨g, 9, none⟩)) (wt0 rfl) rfl rfl (x_fieldAddr rfl rfl fo64_8 rfl) ?_)
 refine l_of (s_val (v := .bool false) (wt0 rfl) rfl rfl (x_load1 H0 0 rfl rfl Try.underlying4 rfl rfl rfl) ?_)
 refine l_of (s_val (v := .bool true) (wt0 rfl) rfl rfl (x_not (b := false) rfl rfl) ?_)
 refine l_of (s_val (v := .bool true) (wt0 rfl) rfl rfl (x_assign rfl rfl) ?_)
 refine g_nil ?_
 refine g_then ?_
 refine g_cond_t rfl rfl ?_
 refine g_seq ?_
 refine g_region ?_
 refine l_of (s_val (v := .int .i64 9) (wt0 rfl) rfl rfl (x_assign rfl rfl) ?_)
 refine g_nil ?_
 refine g_then ?_
 refine g_ret ?_
 refine g_in_ret ?_
 refine g_then_ret ?_
 refine fin_ret [.tmp 2] [.int .i64 9] rfl ⟨rfl, trivial⟩ ?_
 exact ⟨rfl, H0⟩
set_option maxRecDepth 20000 in
set_option maxHeartbeats 4000000 in
set_option maxRecDepth 20000 in
set_option maxHeartbeats 4000000 in
theorem done_n {g nr C : Nat} {P : Option Addr} {cu mp : Value} {ev now til : Int} {begun dn stopped : Bool}  (w : World) (HS : S w [Ob g (.cells #[cu, .int .i64 ev, .slice P nr C, mp, .int .i64 now, .int .i64 til, .bool begun, .bool true, .bool dn, .bool stopped] 64 (0, 0))]) : Calls Try.prog 17 #[.pointer (some ⟨g, 0, none⟩)] w fun e w' => e = .returned (.int .i64 9) ∧ S w' ([Ob g (.cells #[cu, .int .i64 ev, .slice P nr C, mp, .int .i64 now, .int .i64 til, .bool begun, .bool true, .bool dn, .bool stopped] 64 (0, 0))] ++ [Old w (fps [Ob g (.cells #[cu, .int .i64 ev, .slice P nr C, mp, .int .i64 now, .int .i64 til, .bool begun, .bool true, .bool dn, .bool stopped] 64 (0, 0))])]) := by
 have H0 := HS.beginI
 refine enter 17 Try.func17 rfl rfl rfl ?_
 refine g_weak [(0, .pointer (some ⟨g, 0, none⟩))] ⟨rfl, trivial⟩ ?_
 refine g_seq ?_
 refine g_region ?_
 refine l_of (s_val (v := .int .i64 0) (wt0 rfl) rfl rfl (x_assign rfl rfl) ?_)
 refine g_nil ?_
 refine g_then ?_
 refine g_seq ?_
 refine g_block ?_
 refine g_seq ?_
 refine g_region ?_
 refine l_of (s_val (v := .pointer (some ⟨g, 0, none⟩)) (wt0 rfl) rfl rfl (x_move rfl rfl) ?_)
 refine l_of (s_val (v := .bool false) (wt0 rfl) rfl rfl (x_bin rfl rfl rfl (b_eqN (r := false) Try.underlying26 rfl)) ?_)
 refine l_of (s_val (v := .bool false) (wt0 rfl) rfl rfl (x_assign rfl rfl) ?_)
 refine g_nil ?_
 refine g_then ?_
 refine g_cond_f rfl rfl ?_
 refine g_seq ?_
 refine g_region ?_
 refine l_of (s_val (v := .pointer (some ⟨g, 0, none⟩)) (wt0 rfl) rfl rfl (x_move rfl rfl) ?_)
 refine l_of (s_val (v := .pointer (some ⟨g, 0, none⟩)) (wt0 rfl) rfl rfl (x_nilCheck rfl rfl) ?_)
 refine l_of (s_val (v := .pointer (some ⟨g, 7, none⟩)) (wt0 rfl) rfl rfl (x_fieldAddr rfl rfl fo64_6 rfl) ?_)
 refine l_of (s_val (v := .bool true) (wt0 rfl) rfl rfl (x_load1 H0 0 rfl rfl Try.underlying4 rfl rfl rfl) ?_)
 refine l_of (s_val (v := .bool true) (wt0 rfl) rfl rfl (x_assign rfl rfl) ?_)
 refine g_nil ?_
 refine g_then ?_
 refine g_cond_t rfl rfl ?_
 refine g_seq ?_
 refine g_region ?_
 refine l_of (s_val (v := .int .i64 9) (wt0 rfl) rfl rfl (x_assign rfl rfl) ?_)
 refine g_nil ?_
 refine g_then ?_
 refine g_ret ?_
 refine g_in_ret ?_
 refine g_then_ret ?_
 refine fin_ret [.tmp 2] [.int .i64 9] rfl ⟨rfl, trivial⟩ ?_
 exact ⟨rfl, H0⟩
set_option maxRecDepth 20000 in
set_option maxHeartbeats 4000000 in
set_option maxRecDepth 20000 in
set_option maxHeartbeats 4000000 in
theorem done_y {g nr C : Nat} {P : Option Addr} {cu mp : Value} {ev now til : Int} {begun dn stopped : Bool}  (w : World) (HS : S w [Ob g (.cells #[cu, .int .i64 ev, .slice P nr C, mp, .int .i64 now, .int .i64 til, .bool begun, .bool false, .bool dn, .bool stopped] 64 (0, 0))]) : Calls Try.prog 17 #[.pointer (some ⟨g, 0, none⟩)] w fun e w' => e = .returned (.int .i64 0) ∧ S w' ([Ob g (.cells #[cu, .int .i64 ev, .slice P nr C, mp, .int .i64 now, .int .i64 til, .bool begun, .bool true, .bool true, .bool stopped] 64 (0, 0))] ++ [Old w (fps [Ob g (.cells #[cu, .int .i64 ev, .slice P nr C, mp, .int .i64 now, .int .i64 til, .bool begun, .bool false, .bool dn, .bool stopped] 64 (0, 0))])]) := by
 have H0 := HS.beginI
 refine enter 17 Try.func17 rfl rfl rfl ?_
 refine g_weak [(0, .pointer (some ⟨g, 0, none⟩))] ⟨rfl, trivial⟩ ?_
 refine g_seq ?_
 refine g_region ?_
 refine l_of (s_val (v := .int .i64 0) (wt0 rfl) rfl rfl (x_assign rfl rfl) ?_)
 refine g_nil ?_
 refine g_then ?_
 refine g_seq ?_
 refine g_block ?_
 refine g_seq ?_
 refine g_region ?_
 refine l_of (s_val (v := .pointer (some ⟨g, 0, none⟩)) (wt0 rfl) rfl rfl (x_move rfl rfl) ?_)
 refine l_of (s_val (v := .bool false) (wt0 rfl) rfl rfl (x_bin rfl rfl rfl (b_eqN (r := false) Try.underlying26 rfl)) ?_)
 refine l_of (s_val (v := .bool false) (wt0 rfl) rfl rfl (x_assign rfl rfl) ?_)
 refine g_nil ?_
 refine g_then ?_
 refine g_cond_f rfl rfl ?_
 refine g_seq ?_
 refine g_region ?_
 refine l_of (s_val (v := .pointer (some ⟨g, 0, none⟩)) (wt0 rfl) rfl rfl (x_move rfl rfl) ?_)
 refine l_of (s_val (v := .pointer (some ⟨g, 0, none⟩)) (wt0 rfl) rfl rfl (x_nilCheck rfl rfl) ?_)
 refine l_of (s_val (v := .pointer (some ⟨g, 7, none⟩)) (wt0 rfl) rfl rfl (x_fieldAddr rfl rfl fo64_6 rfl) ?_)
 refine l_of (s_val (v := .bool false) (wt0 rfl) rfl rfl (x_load1 H0 0 rfl rfl Try.underlying4 rfl rfl rfl) ?_)
 refine l_of (s_val (v := .bool false) (wt0 rfl) rfl rfl (x_assign rfl rfl) ?_)
 refine g_nil ?_
 refine g_then ?_
 refine g_cond_f rfl rfl ?_
 refine g_skip ?_
 refine g_in ?_
 refine g_then ?_
 refine g_seq ?_
 refine g_region ?_
 refine l_of (s_val (v := .pointer (some ⟨g, 0, none⟩)) (wt0 rfl) rfl rfl (x_move rfl rfl) ?_)
 refine l_of (s_val (v := .pointer (some ⟨g, 0, none⟩)) (wt0 rfl) rfl rfl (x_move rfl rfl) ?_)
 refine l_of (s_val (v := .pointer (some ⟨g, 0, none⟩)) (wt0 rfl) rfl rfl (x_nilCheck rfl rfl) ?_)
 refine l_of (s_val (v := .pointer (some ⟨g, 7, none⟩)) (wt0 rfl) rfl rfl (x_fieldAddr rfl rfl fo64_6 rfl) ?_)
 refine l_of (s_store H0 0 (wt0 rfl) rfl rfl rfl rfl rfl sz4 rfl rfl (cs' := #[cu, .int .i64 ev, .slice P nr C, mp, .int .i64 now, .int .i64 til, .bool begun, .bool true, .bool dn, .bool stopped]) rfl ?_)
 intro wq1 H2
 refine l_of (s_val (v := .pointer (some ⟨g, 0, none⟩)) (wt0 rfl) rfl rfl (x_nilCheck rfl rfl) ?_)
 refine l_of (s_val (v := .pointer (some ⟨g, 8, none⟩)) (wt0 rfl) rfl rfl (x_fieldAddr rfl rfl fo64_7 rfl) ?_)
 refine l_of (s_store H2 0 (wt0 rfl) rfl rfl rfl rfl rfl sz4 rfl rfl (cs' := #[cu, .int .i64 ev, .slice P nr C, mp, .int .i64 now, .int .i64 til, .bool begun, .bool true, .bool true, .bool stopped]) rfl ?_)
 intro wq3 H4
 refine g_nil ?_
 refine g_then ?_
 refine g_weak [] trivial ?_
 refine g_seq ?_
 refine g_region ?_
 refine l_of (s_val (v := .int .i64 0) (wt0 rfl) rfl rfl (x_assign rfl rfl) ?_)
 refine g_nil ?_
 refine g_then ?_
 refine g_ret ?_
 refine fin_ret [.tmp 2] [.int .i64 0] rfl ⟨rfl, trivial⟩ ?_
 exact ⟨rfl, H4⟩
set_option maxRecDepth 20000 in
set_option maxHeartbeats 4000000 in
set_option maxRecDepth 20000 in
set_option maxHeartbeats 4000000 in
theorem stop_n {g nr C : Nat} {P : Option Addr} {cu mp : Value} {ev now til : Int} {begun whole dn : Bool}  (w : World) (HS : S w [Ob g (.cells #[cu, .int .i64 ev, .slice P nr C, mp, .int .i64 now, .int .i64 til, .bool begun, .bool whole, .bool dn, .bool true] 64 (0, 0))]) : Calls Try.prog 18 #[.pointer (some ⟨g, 0, none⟩)] w fun e w' => e = .returned (.int .i64 9) ∧ S w' ([Ob g (.cells #[cu, .int .i64 ev, .slice P nr C, mp, .int .i64 now, .int .i64 til, .bool begun, .bool whole, .bool dn, .bool true] 64 (0, 0))] ++ [Old w (fps [Ob g (.cells #[cu, .int .i64 ev, .slice P nr C, mp, .int .i64 now, .int .i64 til, .bool begun, .bool whole, .bool dn, .bool true] 64 (0, 0))])]) := by
 have H0 := HS.beginI
 refine enter 14 Try.func18 rfl rfl rfl ?_
 refine g_weak [(0, .pointer (some ⟨g, 0, none⟩))] ⟨rfl, trivial⟩ ?_
 refine g_seq ?_
 refine g_region ?_
 refine l_of (s_val (v := .int .i64 0) (wt0 rfl) rfl rfl (x_assign rfl rfl) ?_)
 refine g_nil ?_
 refine g_then ?_
 refine g_seq ?_
 refine g_block ?_
 refine g_seq ?_
 refine g_region ?_
 refine l_of (s_val (v := .pointer (some ⟨g, 0, none⟩)) (wt0 rfl) rfl rfl (x_move rfl rfl) ?_)
 refine l_of (s_val (v := .bool false) (wt0 rfl) rfl rfl (x_bin rfl rfl rfl (b_eqN (r := false) Try.underlying26 rfl)) ?_)
 refine l_of (s_val (v := .bool false) (wt0 rfl) rfl rfl (x_assign rfl rfl) ?_)
 refine g_nil ?_
 refine g_then ?_
 refine g_cond_f rfl rfl ?_
 refine g_seq ?_
 refine g_region ?_
 refine l_of (s_val (v := .pointer (some ⟨g, 0, none⟩)) (wt0 rfl) rfl rfl (x_move rfl rfl) ?_)
 refine l_of (s_val (v := .pointer (some ⟨g, 0, none⟩)) (wt0 rfl) rfl rfl (x_nilCheck rfl rfl) ?_)
 refine l_of (s_val (v := .pointer (some ⟨g, 9, none⟩)) (wt0 rfl) rfl rfl (x_fieldAddr rfl rfl fo64_8 rfl) ?_)
 refine l_of (s_val (v := .bool true) (wt0 rfl) rfl rfl (x_load1 H0 0 rfl rfl Try.underlying4 rfl rfl rfl) ?_)
 refine l_of (s_val (v := .bool true) (wt0 rfl) rfl rfl (x_assign rfl rfl) ?_)
 refine g_nil ?_
 refine g_then ?_
 refine g_cond_t rfl rfl ?_
 refine g_seq ?_
 refine g_region ?_
 refine l_of (s_val (v := .int .i64 9) (wt0 rfl) rfl rfl (x_assign rfl rfl) ?_)
 refine g_nil ?_
 refine g_then ?_
 refine g_ret ?_
 refine g_in_ret ?_
 refine g_then_ret ?_
 refine fin_ret [.tmp 2] [.int .i64 9] rfl ⟨rfl, trivial⟩ ?_
 exact ⟨rfl, H0⟩
set_option maxRecDepth 20000 in
set_option maxHeartbeats 4000000 in
set_option maxRecDepth 20000 in
set_option maxHeartbeats 4000000 in
theorem stop_y {g nr C : Nat} {P : Option Addr} {cu mp : Value} {ev now til : Int} {begun whole dn : Bool}  (w : World) (HS : S w [Ob g (.cells #[cu, .int .i64 ev, .slice P nr C, mp, .int .i64 now, .int .i64 til, .bool begun, .bool whole, .bool dn, .bool false] 64 (0, 0))]) : Calls Try.prog 18 #[.pointer (some ⟨g, 0, none⟩)] w fun e w' => e = .returned (.int .i64 0) ∧ S w' ([Ob g (.cells #[cu, .int .i64 ev, .slice P nr C, mp, .int .i64 now, .int .i64 til, .bool begun, .bool whole, .bool dn, .bool true] 64 (0, 0))] ++ [Old w (fps [Ob g (.cells #[cu, .int .i64 ev, .slice P nr C, mp, .int .i64 now, .int .i64 til, .bool begun, .bool whole, .bool dn, .bool false] 64 (0, 0))])]) := by
 have H0 := HS.beginI
 refine enter 14 Try.func18 rfl rfl rfl ?_
 refine g_weak [(0, .pointer (some ⟨g, 0, none⟩))] ⟨rfl, trivial⟩ ?_
 refine g_seq ?_
 refine g_region ?_
 refine l_of (s_val (v := .int .i64 0) (wt0 rfl) rfl rfl (x_assign rfl rfl) ?_)
 refine g_nil ?_
 refine g_then ?_
 refine g_seq ?_
 refine g_block ?_
 refine g_seq ?_
 refine g_region ?_
 refine l_of (s_val (v := .pointer (some ⟨g, 0, none⟩)) (wt0 rfl) rfl rfl (x_move rfl rfl) ?_)
 refine l_of (s_val (v := .bool false) (wt0 rfl) rfl rfl (x_bin rfl rfl rfl (b_eqN (r := false) Try.underlying26 rfl)) ?_)
 refine l_of (s_val (v := .bool false) (wt0 rfl) rfl rfl (x_assign rfl rfl) ?_)
 refine g_nil ?_
 refine g_then ?_
 refine g_cond_f rfl rfl ?_
 refine g_seq ?_
 refine g_region ?_
 refine l_of (s_val (v := .pointer (some ⟨g, 0, none⟩)) (wt0 rfl) rfl rfl (x_move rfl rfl) ?_)
 refine l_of (s_val (v := .pointer (some ⟨g, 0, none⟩)) (wt0 rfl) rfl rfl (x_nilCheck rfl rfl) ?_)
 refine l_of (s_val (v := .pointer (some ⟨g, 9, none⟩)) (wt0 rfl) rfl rfl (x_fieldAddr rfl rfl fo64_8 rfl) ?_)
 refine l_of (s_val (v := .bool false) (wt0 rfl) rfl rfl (x_load1 H0 0 rfl rfl Try.underlying4 rfl rfl rfl) ?_)
 refine l_of (s_val (v := .bool false) (wt0 rfl) rfl rfl (x_assign rfl rfl) ?_)
 refine g_nil ?_
 refine g_then ?_
 refine g_cond_f rfl rfl ?_
 refine g_skip ?_
 refine g_in ?_
 refine g_then ?_
 refine g_seq ?_
 refine g_region ?_
 refine l_of (s_val (v := .pointer (some ⟨g, 0, none⟩)) (wt0 rfl) rfl rfl (x_move rfl rfl) ?_)
 refine l_of (s_val (v := .pointer (some ⟨g, 0, none⟩)) (wt0 rfl) rfl rfl (x_nilCheck rfl rfl) ?_)
 refine l_of (s_val (v := .pointer (some ⟨g, 9, none⟩)) (wt0 rfl) rfl rfl (x_fieldAddr rfl rfl fo64_8 rfl) ?_)
 refine l_of (s_store H0 0 (wt0 rfl) rfl rfl rfl rfl rfl sz4 rfl rfl (cs' := #[cu, .int .i64 ev, .slice P nr C, mp, .int .i64 now, .int .i64 til, .bool begun, .bool whole, .bool dn, .bool true]) rfl ?_)
 intro wq1 H2
 refine g_nil ?_
 refine g_then ?_
 refine g_weak [] trivial ?_
 refine g_seq ?_
 refine g_region ?_
 refine l_of (s_val (v := .int .i64 0) (wt0 rfl) rfl rfl (x_assign rfl rfl) ?_)
 refine g_nil ?_
 refine g_then ?_
 refine g_ret ?_
 refine fin_ret [.tmp 2] [.int .i64 0] rfl ⟨rfl, trivial⟩ ?_
 exact ⟨rfl, H2⟩
end Go.Proofs.Ytibdlnjnomikjaa
