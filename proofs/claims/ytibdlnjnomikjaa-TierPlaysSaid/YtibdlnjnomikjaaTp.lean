import Derived.Test.YtibdlnjnomikjaaFk
import Derived.Test.YtibdlnjnomikjaaTo
set_option linter.unusedSimpArgs false
set_option linter.unusedVariables false
namespace Go.Proofs.Ytibdlnjnomikjaa
open Go.RowKit

theorem cl31 : callable Try.prog 31 = true := by kernel_rfl
theorem cl32 : callable Try.prog 32 = true := by kernel_rfl
theorem cl33 : callable Try.prog 33 = true := by kernel_rfl
theorem cl57 : callable Try.prog 57 = true := by kernel_rfl
theorem fo34_2 : foO Try.prog 34 2 = some 2 := by kernel_rfl
theorem fo34_3 : foO Try.prog 34 3 = some 3 := by kernel_rfl
theorem fo61_0 : foO Try.prog 61 0 = some 0 := by kernel_rfl
theorem fo64_0 : foO Try.prog 64 0 = some 0 := by kernel_rfl
theorem sz27 : szO Try.prog 27 = some 1 := by kernel_rfl
theorem sz34 : szO Try.prog 34 = some 4 := by kernel_rfl
theorem sz61 : szO Try.prog 61 = some 2 := by kernel_rfl
theorem ze27 : zeO Try.prog 27 = some (.int .i64 0) := by kernel_rfl
theorem ze34 : zeO Try.prog 34 = some (.agg #[.int .i64 0, .int .i64 0, .int .i64 0, .int .i64 0]) := by kernel_rfl
theorem S.base3 {w : World} {a b c : Item} {L : List Item} (h : S w (a :: b :: c :: L)) : S w (Big [a, b, c] :: Big [] :: L) := by
  have h1 : S w (Big [a, b, c] :: L) := S.big (L := [a, b, c]) h
  have h2 : S w (Big [] :: Big [a, b, c] :: L) := h1.cons (S.nil w) (fun g hg => by obtain ⟨_, h, _⟩ := hg; cases h) (fun _ _ g hg => by obtain ⟨_, h, _⟩ := hg; cases h)
  exact h2.perm (List.Perm.swap ..)
theorem forall_snoc {α : Type} {P : α → Prop} {l : List α} {x : α} (h : ∀ y ∈ l, P y) (hx : P x) : ∀ y ∈ l ++ [x], P y := fun y hy => by
  rcases List.mem_append.1 hy with h1 | h1
  · exact h y h1
  · rw [List.mem_singleton] at h1; subst h1; exact hx
set_option maxRecDepth 20000 in
set_option maxHeartbeats 4000000 in
set_option maxRecDepth 20000 in
set_option maxHeartbeats 4000000 in
theorem next_s {g nr C : Nat} {P : Option Addr} {mp : Value} {ev now til : Int} {begun whole dn stopped : Bool} {rows : Rws} {tk : Nat → Tk} {n : Int} (hnr : nr = rows.length) (hnr2 : nr ≤ 1000) (hrl : ∀ r ∈ rows, r.l.length ≤ 1000)  (w : World) (HS : S w [Ob g (.cells #[.pointer none, .int .i64 ev, .slice P nr C, mp, .int .i64 now, .int .i64 til, .bool begun, .bool whole, .bool dn, .bool stopped] 64 (0, 0)), Rw 68 1 P nr C (rosV rows), RowsI 59 1 ptL rows, Fam 71 Tk.cells (adr rows) tk]) : Calls Try.prog 11 #[.pointer (some ⟨g, 0, none⟩), .int .i64 n] w fun e w' => (tellS now n ≠ 0 ∧ e = .returned (.tuple #[.agg #[.int .i64 0, .int .i64 0, .int .i64 0, .int .i64 0], .int .i64 ((tellS now n))]) ∧ S w' ([Ob g (.cells #[.pointer none, .int .i64 ev, .slice P nr C, mp, .int .i64 now, .int .i64 til, .bool begun, .bool whole, .bool dn, .bool stopped] 64 (0, 0)), Rw 68 1 P nr C (rosV rows), RowsI 59 1 ptL rows, Fam 71 Tk.cells (adr rows) tk] ++ [Old w (fps [Ob g (.cells #[.pointer none, .int .i64 ev, .slice P nr C, mp, .int .i64 now, .int .i64 til, .bool begun, .bool whole, .bool dn, .bool stopped] 64 (0, 0)), Rw 68 1 P nr C (rosV rows), RowsI 59 1 ptL rows, Fam 71 Tk.cells (adr rows) tk])])) ∨ (tellS now n = 0 ∧ (∀ p : Pl, p ∈ flatF 0 (lsOf rows) → okS (evS begun dn stopped) til n (tk p.2.2) = false) ∧ e = .returned (.tuple #[.agg #[.int .i64 0, .int .i64 0, .int .i64 0, .int .i64 0], .int .i64 8]) ∧ S w' ([Ob g (.cells #[.pointer none, .int .i64 ev, .slice P nr C, mp, .int .i64 now, .int .i64 til, .bool begun, .bool whole, .bool dn, .bool stopped] 64 (0, 0)), Rw 68 1 P nr C (rosV rows), RowsI 59 1 ptL rows, Fam 71 Tk.cells (adr rows) tk] ++ [Old w (fps [Ob g (.cells #[.pointer none, .int .i64 ev, .slice P nr C, mp, .int .i64 now, .int .i64 til, .bool begun, .bool whole, .bool dn, .bool stopped] 64 (0, 0)), Rw 68 1 P nr C (rosV rows), RowsI 59 1 ptL rows, Fam 71 Tk.cells (adr rows) tk])])) ∨ (∃ (i k x : Nat) (post pre : List Pl), flatF 0 (lsOf rows) = pre ++ (i, k, x) :: post ∧ tellS now n = 0 ∧ (∀ p : Pl, p ∈ pre → okS (evS begun dn stopped) til n (tk p.2.2) = false) ∧ okS (evS begun dn stopped) til n (tk x) = true ∧ e = .returned (.tuple #[.agg #[.int .i64 ((i : Int)), .int .i64 ((k : Int)), .int .i64 n, .int .i64 ((evS begun dn stopped))], .int .i64 0]) ∧ S w' ([Ob g (.cells #[.pointer (some ⟨x, 0, none⟩), .int .i64 ((evS begun dn stopped)), .slice P nr C, mp, .int .i64 n, .int .i64 til, .bool begun, .bool whole, .bool dn, .bool stopped] 64 (0, 0)), Rw 68 1 P nr C (rosV rows), RowsI 59 1 ptL rows, Fam 71 Tk.cells (adr rows) tk] ++ [Old w (fps [Ob g (.cells #[.pointer none, .int .i64 ev, .slice P nr C, mp, .int .i64 now, .int .i64 til, .bool begun, .bool whole, .bool dn, .bool stopped] 64 (0, 0)), Rw 68 1 P nr C (rosV rows), RowsI 59 1 ptL rows, Fam 71 Tk.cells (adr rows) tk])])) := by
 have H0 := HS.beginI
 refine enter_m 59 Try.func11 rfl rfl rfl ?_
 have hL : ¬ LetsOut (bodyPostM (WF none) 9 Try.prog Try.f11 fun e w' => (tellS now n ≠ 0 ∧ e = .returned (.tuple #[.agg #[.int .i64 0, .int .i64 0, .int .i64 0, .int .i64 0], .int .i64 ((tellS now n))]) ∧ S w' ([Ob g (.cells #[.pointer none, .int .i64 ev, .slice P nr C, mp, .int .i64 now, .int .i64 til, .bool begun, .bool whole, .bool dn, .bool stopped] 64 (0, 0)), Rw 68 1 P nr C (rosV rows), RowsI 59 1 ptL rows, Fam 71 Tk.cells (adr rows) tk] ++ [Old w (fps [Ob g (.cells #[.pointer none, .int .i64 ev, .slice P nr C, mp, .int .i64 now, .int .i64 til, .bool begun, .bool whole, .bool dn, .bool stopped] 64 (0, 0)), Rw 68 1 P nr C (rosV rows), RowsI 59 1 ptL rows, Fam 71 Tk.cells (adr rows) tk])])) ∨ (tellS now n = 0 ∧ (∀ p : Pl, p ∈ flatF 0 (lsOf rows) → okS (evS begun dn stopped) til n (tk p.2.2) = false) ∧ e = .returned (.tuple #[.agg #[.int .i64 0, .int .i64 0, .int .i64 0, .int .i64 0], .int .i64 8]) ∧ S w' ([Ob g (.cells #[.pointer none, .int .i64 ev, .slice P nr C, mp, .int .i64 now, .int .i64 til, .bool begun, .bool whole, .bool dn, .bool stopped] 64 (0, 0)), Rw 68 1 P nr C (rosV rows), RowsI 59 1 ptL rows, Fam 71 Tk.cells (adr rows) tk] ++ [Old w (fps [Ob g (.cells #[.pointer none, .int .i64 ev, .slice P nr C, mp, .int .i64 now, .int .i64 til, .bool begun, .bool whole, .bool dn, .bool stopped] 64 (0, 0)), Rw 68 1 P nr C (rosV rows), RowsI 59 1 ptL rows, Fam 71 Tk.cells (adr rows) tk])])) ∨ (∃ (i k x : Nat) (post pre : List Pl), flatF 0 (lsOf rows) = pre ++ (i, k, x) :: post ∧ tellS now n = 0 ∧ (∀ p : Pl, p ∈ pre → okS (evS begun dn stopped) til n (tk p.2.2) = false) ∧ okS (evS begun dn stopped) til n (tk x) = true ∧ e = .returned (.tuple #[.agg #[.int .i64 ((i : Int)), .int .i64 ((k : Int)), .int .i64 n, .int .i64 ((evS begun dn stopped))], .int .i64 0]) ∧ S w' ([Ob g (.cells #[.pointer (some ⟨x, 0, none⟩), .int .i64 ((evS begun dn stopped)), .slice P nr C, mp, .int .i64 n, .int .i64 til, .bool begun, .bool whole, .bool dn, .bool stopped] 64 (0, 0)), Rw 68 1 P nr C (rosV rows), RowsI 59 1 ptL rows, Fam 71 Tk.cells (adr rows) tk] ++ [Old w (fps [Ob g (.cells #[.pointer none, .int .i64 ev, .slice P nr C, mp, .int .i64 now, .int .i64 til, .bool begun, .bool whole, .bool dn, .bool stopped] 64 (0, 0)), Rw 68 1 P nr C (rosV rows), RowsI 59 1 ptL rows, Fam 71 Tk.cells (adr rows) tk])]))) := by
  rintro ⟨_, _, h⟩
  simp only [bodyPostM, reduceCtorEq, false_and, and_false, exists_false, or_false, or_self, exists_const] at h
 refine g_weak [(0, .pointer (some ⟨g, 0, none⟩)), (1, .int .i64 n)] ⟨rfl, rfl, trivial⟩ ?_
 refine R.g_seq ?_
 refine R.g_region ?_
 refine R.l_of rfl (fun h => hL h) (s_box H0 (wt0 rfl) rfl rfl rfl rfl ?_)
 intro g1 wq2 H3
 refine R.l_of rfl (fun h => hL h) (s_box H3 (wt0 rfl) rfl rfl rfl rfl ?_)
 intro g4 wq5 H6
 refine R.l_of rfl (fun h => hL h) (s_alloc H6 (wt0 rfl) rfl rfl rfl ze34 ?_)
 intro g7 wq8 H9
 refine R.l_of rfl (fun h => hL h) (s_alloc H9 (wt0 rfl) rfl rfl rfl ze27 ?_)
 intro g10 wq11 H12
 refine R.g_nil ?_
 refine g_then ?_
 refine R.g_seq ?_
 refine R.g_seq ?_
 refine R.g_region ?_
 refine R.l_of rfl (fun h => hL h) (s_val (v := .pointer (some ⟨g, 0, none⟩)) (wt0 rfl) rfl rfl (x_load1 H12 3 rfl rfl Try.underlying26 rfl rfl rfl) ?_)
 refine R.l_of rfl (fun h => hL h) (s_val (v := .int .i64 n) (wt0 rfl) rfl rfl (x_load1 H12 2 rfl rfl Try.underlying3 rfl rfl rfl) ?_)
 refine R.l_of rfl (fun h => hL h) (s_call (wt0 rfl) (x_call' rfl rfl cl31) (tell_s  _ (H12.takes [4] (by decide))) ?_)
 rintro _ wq13 ⟨rfl, H14⟩
 replace H14 : S wq13 [Ob g (.cells #[.pointer none, .int .i64 ev, .slice P nr C, mp, .int .i64 now, .int .i64 til, .bool begun, .bool whole, .bool dn, .bool stopped] 64 (0, 0)), Ob g10 (.cells #[.int .i64 0] 27 (0, 0)), Ob g7 (.cells #[.int .i64 0, .int .i64 0, .int .i64 0, .int .i64 0] 34 (0, 0)), Ob g4 (.cells #[.int .i64 n] 3 (0, 0)), Ob g1 (.cells #[.pointer (some ⟨g, 0, none⟩)] 26 (0, 0)), Rw 68 1 P nr C (rosV rows), RowsI 59 1 ptL rows, Fam 71 Tk.cells (adr rows) tk, Old w (fps [Ob g (.cells #[.pointer none, .int .i64 ev, .slice P nr C, mp, .int .i64 now, .int .i64 til, .bool begun, .bool whole, .bool dn, .bool stopped] 64 (0, 0)), Rw 68 1 P nr C (rosV rows), RowsI 59 1 ptL rows, Fam 71 Tk.cells (adr rows) tk])] := H12.absorbI (new := [Ob g (.cells #[.pointer none, .int .i64 ev, .slice P nr C, mp, .int .i64 now, .int .i64 til, .bool begun, .bool whole, .bool dn, .bool stopped] 64 (0, 0))]) [4] H14
 refine b_ret rfl rfl ?_
 refine R.l_of rfl (fun h => hL h) (s_val (v := .int .i64 ((tellS now n))) (wt0 rfl) rfl rfl (x_assign rfl rfl) ?_)
 refine R.g_nil ?_
 refine g_then ?_
 refine R.g_seq ?_
 refine R.g_region ?_
 refine R.l_of rfl (fun h => hL h) (s_val (v := .int .i64 ((tellS now n))) (wt0 rfl) rfl rfl (x_move rfl rfl) ?_)
 refine R.l_of rfl (fun h => hL h) (s_val (v := .bool (!decide (((tellS now n) : Int) = 0))) (wt0 rfl) rfl rfl (x_bin rfl rfl rfl b_neq) ?_)
 refine R.g_nil ?_
 refine g_then ?_
 by_cases hb15 : ((tellS now n) : Int) = 0
 ·
  have hl0 := hb15
  refine R.g_cond_f rfl (nf hb15) ?_
  refine R.g_skip ?_
  refine g_then ?_
  refine R.g_seq ?_
  refine R.g_seq ?_
  refine R.g_region ?_
  refine R.l_of rfl (fun h => hL h) (s_val (v := .pointer (some ⟨g, 0, none⟩)) (wt0 rfl) rfl rfl (x_load1 H14 4 rfl rfl Try.underlying26 rfl rfl rfl) ?_)
  refine R.l_of rfl (fun h => hL h) (s_val (v := .pointer (some ⟨g, 0, none⟩)) (wt0 rfl) rfl rfl (x_nilCheck rfl rfl) ?_)
  refine R.l_of rfl (fun h => hL h) (s_val (v := .pointer (some ⟨g, 0, none⟩)) (wt0 rfl) rfl rfl (x_fieldAddr rfl rfl fo64_0 rfl) ?_)
  refine R.l_of rfl (fun h => hL h) (s_val (v := .pointer (some ⟨g, 0, none⟩)) (wt0 rfl) rfl rfl (x_fieldAddr rfl rfl fo61_0 rfl) ?_)
  refine R.l_of rfl (fun h => hL h) (s_val (v := .pointer none) (wt0 rfl) rfl rfl (x_load1 H14 0 rfl rfl Try.underlying59 rfl rfl rfl) ?_)
  refine R.l_of rfl (fun h => hL h) (s_val (v := .bool false) (wt0 rfl) rfl rfl (x_bin rfl rfl rfl (b_neN (r := true) Try.underlying59 rfl)) ?_)
  refine R.g_nil ?_
  refine g_then ?_
  refine g_weak [(2, .pointer (some ⟨g1, 0, none⟩)), (3, .pointer (some ⟨g4, 0, none⟩)), (4, .pointer (some ⟨g7, 0, none⟩)), (5, .pointer (some ⟨g10, 0, none⟩)), (23, .bool false)] ⟨rfl, rfl, rfl, rfl, rfl, trivial⟩ ?_
  refine R.g_cond_f rfl rfl ?_
  refine R.g_skip ?_
  refine g_then ?_
  refine R.g_seq ?_
  refine R.g_seq ?_
  refine R.g_region ?_
  refine R.l_of rfl (fun h => hL h) (s_val (v := .pointer (some ⟨g, 0, none⟩)) (wt0 rfl) rfl rfl (x_load1 H14 4 rfl rfl Try.underlying26 rfl rfl rfl) ?_)
  refine R.l_of rfl (fun h => hL h) (s_call (wt0 rfl) (x_call' rfl rfl cl32) (all_s _ _) ?_)
  rintro _ wq17 ⟨b16, rfl, H18⟩
  replace H18 : S wq17 [Ob b16 (.cells #[.pointer (some ⟨g, 0, none⟩)] 26 (0, 0)), Ob g (.cells #[.pointer none, .int .i64 ev, .slice P nr C, mp, .int .i64 now, .int .i64 til, .bool begun, .bool whole, .bool dn, .bool stopped] 64 (0, 0)), Ob g10 (.cells #[.int .i64 0] 27 (0, 0)), Ob g7 (.cells #[.int .i64 0, .int .i64 0, .int .i64 0, .int .i64 0] 34 (0, 0)), Ob g4 (.cells #[.int .i64 n] 3 (0, 0)), Ob g1 (.cells #[.pointer (some ⟨g, 0, none⟩)] 26 (0, 0)), Rw 68 1 P nr C (rosV rows), RowsI 59 1 ptL rows, Fam 71 Tk.cells (adr rows) tk, Old w (fps [Ob g (.cells #[.pointer none, .int .i64 ev, .slice P nr C, mp, .int .i64 now, .int .i64 til, .bool begun, .bool whole, .bool dn, .bool stopped] 64 (0, 0)), Rw 68 1 P nr C (rosV rows), RowsI 59 1 ptL rows, Fam 71 Tk.cells (adr rows) tk])] := H14.absorb (new := [Ob b16 (.cells #[.pointer (some ⟨g, 0, none⟩)] 26 (0, 0))]) H18
  refine b_ret rfl rfl ?_
  refine R.g_nil ?_
  refine g_then ?_
  refine R.g_block ?_
  have H19 := S.base3 (H18.takes [0, 6, 7, 1, 2, 3, 4, 5, 8, 9] (by decide))
  refine g_rangeW (α := Pl) (ι := Nat) (encs := encT) (base := Big [Ob b16 (.cells #[.pointer (some ⟨g, 0, none⟩)] 26 (0, 0)), Rw 68 1 P nr C (rosV rows), RowsI 59 1 ptL rows]) (by omega) rfl cl57 (all_it hnr hnr2 hrl) (fun _ => rfl) rfl (fun pre Lx => (∀ p : Pl, p ∈ pre → okS (evS begun dn stopped) til n (tk p.2.2) = false) ∧ Lx = [Ob g (.cells #[.pointer none, .int .i64 ev, .slice P nr C, mp, .int .i64 now, .int .i64 til, .bool begun, .bool whole, .bool dn, .bool stopped] 64 (0, 0)), Ob g10 (.cells #[.int .i64 0] 27 (0, 0)), Ob g7 (.cells #[.int .i64 0, .int .i64 0, .int .i64 0, .int .i64 0] 34 (0, 0)), Ob g4 (.cells #[.int .i64 n] 3 (0, 0)), Ob g1 (.cells #[.pointer (some ⟨g, 0, none⟩)] 26 (0, 0)), Fam 71 Tk.cells (adr rows) tk, Old w (fps [Ob g (.cells #[.pointer none, .int .i64 ev, .slice P nr C, mp, .int .i64 now, .int .i64 til, .bool begun, .bool whole, .bool dn, .bool stopped] 64 (0, 0)), Rw 68 1 P nr C (rosV rows), RowsI 59 1 ptL rows, Fam 71 Tk.cells (adr rows) tk])]) (fun pre Lx => ∃ (i k x : Nat) (post pre0 : List Pl), flatF 0 (lsOf rows) = pre0 ++ (i, k, x) :: post ∧ (∀ p : Pl, p ∈ pre0 → okS (evS begun dn stopped) til n (tk p.2.2) = false) ∧ okS (evS begun dn stopped) til n (tk x) = true ∧ Lx = [Ob g (.cells #[.pointer (some ⟨x, 0, none⟩), .int .i64 ((evS begun dn stopped)), .slice P nr C, mp, .int .i64 n, .int .i64 til, .bool begun, .bool whole, .bool dn, .bool stopped] 64 (0, 0)), Ob g10 (.cells #[.int .i64 0] 27 (0, 0)), Ob g7 (.cells #[.int .i64 ((i : Int)), .int .i64 ((k : Int)), .int .i64 n, .int .i64 ((evS begun dn stopped))] 34 (0, 0)), Ob g4 (.cells #[.int .i64 n] 3 (0, 0)), Ob g1 (.cells #[.pointer (some ⟨g, 0, none⟩)] 26 (0, 0)), Fam 71 Tk.cells (adr rows) tk, Old w (fps [Ob g (.cells #[.pointer none, .int .i64 ev, .slice P nr C, mp, .int .i64 now, .int .i64 til, .bool begun, .bool whole, .bool dn, .bool stopped] 64 (0, 0)), Rw 68 1 P nr C (rosV rows), RowsI 59 1 ptL rows, Fam 71 Tk.cells (adr rows) tk])]) (fun p ia => [(2, .pointer (some ⟨g1, 0, none⟩)), (3, .pointer (some ⟨g4, 0, none⟩)), (4, .pointer (some ⟨g7, 0, none⟩)), (5, .pointer (some ⟨g10, 0, none⟩)), (7, .pointer (some ⟨ia, 0, none⟩)), (8, .pointer (some ⟨p.2.2, 0, none⟩))]) (fun p ia => [Ob ia (.cells #[.int .i64 ((p.1 : Int)), .int .i64 ((p.2.1 : Int)), .int .i64 0, .int .i64 0] 34 (0, 0))]) (by rintro pre Lx W ⟨_, rfl⟩ hS -; exact hS.cell (k := 0) rfl rfl) ⟨(fun _ h => by cases h), rfl⟩ H19 ?_ ?_ ?_ ?_
  ·
   rintro l1 p Ly W20 H21
   have hL : ¬ LetsOut (fun (_ : Exit) (_ : Act) (_ : World) => False) := fun ⟨_, _, h⟩ => h
   refine g_weak [(2, .pointer (some ⟨g1, 0, none⟩)), (3, .pointer (some ⟨g4, 0, none⟩)), (4, .pointer (some ⟨g7, 0, none⟩)), (5, .pointer (some ⟨g10, 0, none⟩)), (27, .agg #[.int .i64 ((p.1 : Int)), .int .i64 ((p.2.1 : Int)), .int .i64 0, .int .i64 0]), (28, .pointer (some ⟨p.2.2, 0, none⟩))] ⟨rfl, rfl, rfl, rfl, rfl, rfl, trivial⟩ ?_
   refine R.g_seq ?_
   refine R.g_region ?_
   refine R.l_of rfl (fun h => hL h) (s_alloc H21 (wt0 rfl) rfl rfl rfl ze34 ?_)
   intro g22 wq23 H24
   refine R.l_of rfl (fun h => hL h) (s_store H24 0 (wt0 rfl) rfl rfl rfl rfl rfl sz34 rfl rfl (cs' := #[.int .i64 ((p.1 : Int)), .int .i64 ((p.2.1 : Int)), .int .i64 0, .int .i64 0]) rfl ?_)
   intro wq25 H26
   refine R.g_nil ?_
   refine g_then ?_
   refine R.g_region ?_
   refine R.l_of rfl (fun h => hL h) (s_val (v := .pointer (some ⟨p.2.2, 0, none⟩)) (wt0 rfl) rfl rfl (x_assign rfl rfl) ?_)
   refine R.g_nil ?_
   refine g_then ?_
   exact rw_assign g22 ⟨rfl, rfl, rfl, rfl, rfl, rfl, trivial⟩ H26
  ·
   rintro l1 pr ⟨i, k, x⟩ ia II Kx _ W27 ⟨hJ, rfl⟩ ⟨post, hpost⟩ H28
   have hx : x ∈ adr rows := mem_adr (p := (i, k, x)) (by rw [hpost]; simp)
   have H29 := S.unbig (H28.takes [3, 0, 1, 2, 4, 5, 6, 7, 8, 9, 10] (by decide))
   have H30 := S.famOut (H29.takes [9, 0, 1, 2, 3, 4, 5, 6, 7, 8, 10] (by decide)) hx
   refine g_weak [(2, .pointer (some ⟨g1, 0, none⟩)), (3, .pointer (some ⟨g4, 0, none⟩)), (4, .pointer (some ⟨g7, 0, none⟩)), (5, .pointer (some ⟨g10, 0, none⟩)), (7, .pointer (some ⟨ia, 0, none⟩)), (8, .pointer (some ⟨x, 0, none⟩))] ⟨rfl, rfl, rfl, rfl, rfl, rfl, trivial⟩ ?_
   refine R.g_block ?_
   refine R.g_seq ?_
   refine R.g_region ?_
   refine R.l_of rfl (fun ⟨_, _, h⟩ => h) (s_val (v := .pointer (some ⟨g, 0, none⟩)) (wt0 rfl) rfl rfl (x_load1 H30 10 rfl rfl Try.underlying26 rfl rfl rfl) ?_)
   refine R.l_of rfl (fun ⟨_, _, h⟩ => h) (s_val (v := .pointer (some ⟨x, 0, none⟩)) (wt0 rfl) rfl rfl (x_move rfl rfl) ?_)
   refine R.l_of rfl (fun ⟨_, _, h⟩ => h) (s_call (wt0 rfl) (x_call' rfl rfl cl33) (free_s (t := (tk x)) _ (H30.takes [6, 0] (by decide))) ?_)
   rintro _ wq31 ⟨rfl, H32⟩
   replace H32 : S wq31 [Ob g (.cells #[.pointer none, .int .i64 ev, .slice P nr C, mp, .int .i64 now, .int .i64 til, .bool begun, .bool whole, .bool dn, .bool stopped] 64 (0, 0)), Ob x (.cells #[.string ((tk x).name), .int .i64 ((tk x).failed), .int .i64 ((tk x).after), .bool ((tk x).ans), .bool ((tk x).told)] 71 (0, 0)), Fam 71 Tk.cells ((adr rows).erase x) tk, Ob ia (.cells #[.int .i64 ((i : Int)), .int .i64 ((k : Int)), .int .i64 0, .int .i64 0] 34 (0, 0)), Big [Ob b16 (.cells #[.pointer (some ⟨g, 0, none⟩)] 26 (0, 0)), Rw 68 1 P nr C (rosV rows), RowsI 59 1 ptL rows], II, Kx, Ob g10 (.cells #[.int .i64 0] 27 (0, 0)), Ob g7 (.cells #[.int .i64 0, .int .i64 0, .int .i64 0, .int .i64 0] 34 (0, 0)), Ob g4 (.cells #[.int .i64 n] 3 (0, 0)), Ob g1 (.cells #[.pointer (some ⟨g, 0, none⟩)] 26 (0, 0)), Old w (fps [Ob g (.cells #[.pointer none, .int .i64 ev, .slice P nr C, mp, .int .i64 now, .int .i64 til, .bool begun, .bool whole, .bool dn, .bool stopped] 64 (0, 0)), Rw 68 1 P nr C (rosV rows), RowsI 59 1 ptL rows, Fam 71 Tk.cells (adr rows) tk])] := H30.absorbI (new := [Ob g (.cells #[.pointer none, .int .i64 ev, .slice P nr C, mp, .int .i64 now, .int .i64 til, .bool begun, .bool whole, .bool dn, .bool stopped] 64 (0, 0)), Ob x (.cells #[.string ((tk x).name), .int .i64 ((tk x).failed), .int .i64 ((tk x).after), .bool ((tk x).ans), .bool ((tk x).told)] 71 (0, 0))]) [6, 0] H32
   refine b_ret rfl rfl ?_
   refine R.l_of rfl (fun ⟨_, _, h⟩ => h) (s_val (v := .tuple #[.int .i64 ((freeS (evS begun dn stopped) til (tk x)).1), .bool ((freeS (evS begun dn stopped) til (tk x)).2)]) (wt0 rfl) rfl rfl (x_move rfl rfl) ?_)
   refine R.l_of rfl (fun ⟨_, _, h⟩ => h) (s_val (v := .int .i64 ((freeS (evS begun dn stopped) til (tk x)).1)) (wt0 rfl) rfl rfl (x_extract rfl rfl rfl) ?_)
   refine R.l_of rfl (fun ⟨_, _, h⟩ => h) (s_val (v := .bool ((freeS (evS begun dn stopped) til (tk x)).2)) (wt0 rfl) rfl rfl (x_extract rfl rfl rfl) ?_)
   refine R.l_of rfl (fun ⟨_, _, h⟩ => h) (s_val (v := .int .i64 ((freeS (evS begun dn stopped) til (tk x)).1)) (wt0 rfl) rfl rfl (x_assign rfl rfl) ?_)
   refine R.l_of rfl (fun ⟨_, _, h⟩ => h) (s_val (v := .bool ((freeS (evS begun dn stopped) til (tk x)).2)) (wt0 rfl) rfl rfl (x_assign rfl rfl) ?_)
   refine R.g_nil ?_
   refine g_then ?_
   refine R.g_seq ?_
   refine R.g_region ?_
   refine R.l_of rfl (fun ⟨_, _, h⟩ => h) (s_val (v := .bool ((freeS (evS begun dn stopped) til (tk x)).2)) (wt0 rfl) rfl rfl (x_move rfl rfl) ?_)
   refine R.l_of rfl (fun ⟨_, _, h⟩ => h) (s_val (v := .bool ((freeS (evS begun dn stopped) til (tk x)).2)) (wt0 rfl) rfl rfl (x_move rfl rfl) ?_)
   rcases Bool.eq_false_or_eq_true ((freeS (evS begun dn stopped) til (tk x)).2) with hb33 | hb33
   ·
    refine R.l_of rfl (fun ⟨_, _, h⟩ => h) (s_val (v := .int .i64 ((freeS (evS begun dn stopped) til (tk x)).1)) (wt1 rfl rfl rfl rfl hb33) rfl rfl (x_move rfl rfl) ?_)
    refine R.l_of rfl (fun ⟨_, _, h⟩ => h) (s_val (v := .int .i64 n) (wt1 rfl rfl rfl rfl hb33) rfl rfl (x_load1 H32 9 rfl rfl Try.underlying3 rfl rfl rfl) ?_)
    refine R.l_of rfl (fun ⟨_, _, h⟩ => h) (s_val (v := .bool (decide (((freeS (evS begun dn stopped) til (tk x)).1 : Int) ≤ n))) (wt1 rfl rfl rfl rfl hb33) rfl rfl (x_bin rfl rfl rfl b_leq) ?_)
    refine R.l_of rfl (fun ⟨_, _, h⟩ => h) (s_val (v := .bool (decide (((freeS (evS begun dn stopped) til (tk x)).1 : Int) ≤ n))) (wt0 rfl) rfl rfl (x_pick_t rfl rfl hb33 rfl) ?_)
    refine R.g_nil ?_
    refine g_then ?_
    refine g_weak [(2, .pointer (some ⟨g1, 0, none⟩)), (3, .pointer (some ⟨g4, 0, none⟩)), (4, .pointer (some ⟨g7, 0, none⟩)), (5, .pointer (some ⟨g10, 0, none⟩)), (7, .pointer (some ⟨ia, 0, none⟩)), (8, .pointer (some ⟨x, 0, none⟩)), (40, .bool (decide (((freeS (evS begun dn stopped) til (tk x)).1 : Int) ≤ n)))] ⟨rfl, rfl, rfl, rfl, rfl, rfl, rfl, trivial⟩ ?_
    by_cases hb34 : ((freeS (evS begun dn stopped) til (tk x)).1 : Int) ≤ n
    ·
     refine R.g_cond_t rfl (decide_eq_true hb34) ?_
     refine R.g_seq ?_
     refine R.g_anyY [] (fun wx => S wx [Ob g4 (.cells #[.int .i64 n] 3 (0, 0)), Ob g1 (.cells #[.pointer (some ⟨g, 0, none⟩)] 26 (0, 0))]) (fun wx => S wx [Ob g4 (.cells #[.int .i64 n] 3 (0, 0)), Ob g1 (.cells #[.pointer (some ⟨g, 0, none⟩)] 26 (0, 0))]) [] (by kernel_rfl) (by kernel_rfl) (fun ⟨_, _, h⟩ => h) H32 (fun wq35 H36 => ?_)
     refine y_take (v := .int .i64 n) 0 rfl (wt0 rfl) rfl rfl rfl (by kernel_rfl) (by kernel_rfl) (by kernel_rfl) (by kernel_rfl) (by kernel_rfl) (H36.mask [false, false, false, false, false, false, false, false, false, true, true, false]) (fun wx H => x_load1 H 0 rfl rfl Try.underlying3 rfl rfl rfl) ?_
     refine y_take (v := .pointer (some ⟨g, 0, none⟩)) 1 rfl (wt0 rfl) rfl rfl rfl (by kernel_rfl) (by kernel_rfl) (by kernel_rfl) (by kernel_rfl) (by kernel_rfl) (H36.mask [false, false, false, false, false, false, false, false, false, true, true, false]) (fun wx H => x_load1 H 1 rfl rfl Try.underlying26 rfl rfl rfl) ?_
     refine y_pure (v := .pointer (some ⟨ia, 2, none⟩)) 3 rfl (wt0 rfl) rfl rfl rfl (by kernel_rfl) (by kernel_rfl) (by kernel_rfl) (by kernel_rfl) (fun wx => x_fieldAddr rfl rfl fo34_2 rfl) ?_
     refine y_one (i := 2) (by kernel_rfl) rfl ?_
     refine s_call (wt0 rfl) (x_call' rfl rfl cl34) (event_s  _ (H36.takes [0] (by decide))) ?_
     rintro _ wq37 ⟨rfl, H38⟩
     replace H38 : S wq37 [Ob g (.cells #[.pointer none, .int .i64 ev, .slice P nr C, mp, .int .i64 now, .int .i64 til, .bool begun, .bool whole, .bool dn, .bool stopped] 64 (0, 0)), Ob x (.cells #[.string ((tk x).name), .int .i64 ((tk x).failed), .int .i64 ((tk x).after), .bool ((tk x).ans), .bool ((tk x).told)] 71 (0, 0)), Fam 71 Tk.cells ((adr rows).erase x) tk, Ob ia (.cells #[.int .i64 ((i : Int)), .int .i64 ((k : Int)), .int .i64 0, .int .i64 0] 34 (0, 0)), Big [Ob b16 (.cells #[.pointer (some ⟨g, 0, none⟩)] 26 (0, 0)), Rw 68 1 P nr C (rosV rows), RowsI 59 1 ptL rows], II, Kx, Ob g10 (.cells #[.int .i64 0] 27 (0, 0)), Ob g7 (.cells #[.int .i64 0, .int .i64 0, .int .i64 0, .int .i64 0] 34 (0, 0)), Ob g4 (.cells #[.int .i64 n] 3 (0, 0)), Ob g1 (.cells #[.pointer (some ⟨g, 0, none⟩)] 26 (0, 0)), Old w (fps [Ob g (.cells #[.pointer none, .int .i64 ev, .slice P nr C, mp, .int .i64 now, .int .i64 til, .bool begun, .bool whole, .bool dn, .bool stopped] 64 (0, 0)), Rw 68 1 P nr C (rosV rows), RowsI 59 1 ptL rows, Fam 71 Tk.cells (adr rows) tk])] := H36.absorbI (new := [Ob g (.cells #[.pointer none, .int .i64 ev, .slice P nr C, mp, .int .i64 now, .int .i64 til, .bool begun, .bool whole, .bool dn, .bool stopped] 64 (0, 0))]) [0] H38
     refine b_ret rfl rfl ?_
     refine y_k (H38.mask [false, false, false, false, false, false, false, false, false, true, true, false]) (H38.mask [false, false, false, false, false, false, false, false, false, true, true, false]) ?_
     refine y_one (i := 4) (by kernel_rfl) rfl ?_
     refine s_store H38 3 (wt0 rfl) rfl rfl rfl rfl rfl sz3 rfl rfl (cs' := #[.int .i64 ((i : Int)), .int .i64 ((k : Int)), .int .i64 n, .int .i64 0]) rfl ?_
     intro wq39 H40
     refine y_k (H40.mask [false, false, false, false, false, false, false, false, false, true, true, false]) (H40.mask [false, false, false, false, false, false, false, false, false, true, true, false]) ?_
     refine y_pure (v := .pointer (some ⟨ia, 3, none⟩)) 5 rfl (wt0 rfl) rfl rfl rfl (by kernel_rfl) (by kernel_rfl) (by kernel_rfl) (by kernel_rfl) (fun wx => x_fieldAddr rfl rfl fo34_3 rfl) ?_
     refine y_one (i := 6) (by kernel_rfl) rfl ?_
     refine s_store H40 3 (wt0 rfl) rfl rfl rfl rfl rfl sz3 rfl rfl (cs' := #[.int .i64 ((i : Int)), .int .i64 ((k : Int)), .int .i64 n, .int .i64 ((evS begun dn stopped))]) rfl ?_
     intro wq41 H42
     refine y_k (H42.mask [false, false, false, false, false, false, false, false, false, true, true, false]) (H42.mask [false, false, false, false, false, false, false, false, false, true, true, false]) ?_
     refine y_done (by kernel_rfl) ?_
     refine g_then ?_
     refine R.g_seq ?_
     refine R.g_region ?_
     refine R.l_of rfl (fun ⟨_, _, h⟩ => h) (s_val (v := .pointer (some ⟨g, 0, none⟩)) (wt0 rfl) rfl rfl (x_load1 H42 10 rfl rfl Try.underlying26 rfl rfl rfl) ?_)
     refine R.l_of rfl (fun ⟨_, _, h⟩ => h) (s_val (v := .pointer (some ⟨x, 0, none⟩)) (wt0 rfl) rfl rfl (x_move rfl rfl) ?_)
     refine R.l_of rfl (fun ⟨_, _, h⟩ => h) (s_val (v := .pointer (some ⟨ia, 3, none⟩)) (wt0 rfl) rfl rfl (x_fieldAddr rfl rfl fo34_3 rfl) ?_)
     refine R.l_of rfl (fun ⟨_, _, h⟩ => h) (s_val (v := .int .i64 ((evS begun dn stopped))) (wt0 rfl) rfl rfl (x_load1 H42 3 rfl rfl Try.underlying3 rfl rfl rfl) ?_)
     refine R.l_of rfl (fun ⟨_, _, h⟩ => h) (s_val (v := .agg #[.pointer (some ⟨x, 0, none⟩), .int .i64 ((evS begun dn stopped))]) (wt0 rfl) rfl rfl (x_build (vs := [.pointer (some ⟨x, 0, none⟩), .int .i64 ((evS begun dn stopped))]) rfl rfl (cells := #[.pointer (some ⟨x, 0, none⟩), .int .i64 ((evS begun dn stopped))]) (by kernel_rfl)) ?_)
     refine R.l_of rfl (fun ⟨_, _, h⟩ => h) (s_val (v := .pointer (some ⟨g, 0, none⟩)) (wt0 rfl) rfl rfl (x_nilCheck rfl rfl) ?_)
     refine R.l_of rfl (fun ⟨_, _, h⟩ => h) (s_val (v := .pointer (some ⟨g, 0, none⟩)) (wt0 rfl) rfl rfl (x_fieldAddr rfl rfl fo64_0 rfl) ?_)
     refine R.l_of rfl (fun ⟨_, _, h⟩ => h) (s_store H42 0 (wt0 rfl) rfl rfl rfl rfl rfl sz61 rfl rfl (cs' := #[.pointer (some ⟨x, 0, none⟩), .int .i64 ((evS begun dn stopped)), .slice P nr C, mp, .int .i64 now, .int .i64 til, .bool begun, .bool whole, .bool dn, .bool stopped]) rfl ?_)
     intro wq43 H44
     refine R.g_nil ?_
     refine g_then ?_
     refine g_weak [(2, .pointer (some ⟨g1, 0, none⟩)), (3, .pointer (some ⟨g4, 0, none⟩)), (4, .pointer (some ⟨g7, 0, none⟩)), (5, .pointer (some ⟨g10, 0, none⟩)), (7, .pointer (some ⟨ia, 0, none⟩))] ⟨rfl, rfl, rfl, rfl, rfl, trivial⟩ ?_
     refine R.g_seq ?_
     refine R.g_region ?_
     refine R.l_of rfl (fun ⟨_, _, h⟩ => h) (s_val (v := .pointer (some ⟨g, 0, none⟩)) (wt0 rfl) rfl rfl (x_load1 H44 10 rfl rfl Try.underlying26 rfl rfl rfl) ?_)
     refine R.l_of rfl (fun ⟨_, _, h⟩ => h) (s_val (v := .int .i64 n) (wt0 rfl) rfl rfl (x_load1 H44 9 rfl rfl Try.underlying3 rfl rfl rfl) ?_)
     refine R.l_of rfl (fun ⟨_, _, h⟩ => h) (s_val (v := .pointer (some ⟨g, 0, none⟩)) (wt0 rfl) rfl rfl (x_nilCheck rfl rfl) ?_)
     refine R.l_of rfl (fun ⟨_, _, h⟩ => h) (s_val (v := .pointer (some ⟨g, 4, none⟩)) (wt0 rfl) rfl rfl (x_fieldAddr rfl rfl fo64_3 rfl) ?_)
     refine R.l_of rfl (fun ⟨_, _, h⟩ => h) (s_store H44 0 (wt0 rfl) rfl rfl rfl rfl rfl sz3 rfl rfl (cs' := #[.pointer (some ⟨x, 0, none⟩), .int .i64 ((evS begun dn stopped)), .slice P nr C, mp, .int .i64 n, .int .i64 til, .bool begun, .bool whole, .bool dn, .bool stopped]) rfl ?_)
     intro wq45 H46
     refine R.g_nil ?_
     refine g_then ?_
     refine R.g_seq ?_
     refine R.g_region ?_
     refine R.l_of rfl (fun ⟨_, _, h⟩ => h) (s_val (v := .agg #[.int .i64 ((i : Int)), .int .i64 ((k : Int)), .int .i64 n, .int .i64 ((evS begun dn stopped))]) (wt0 rfl) rfl rfl (x_loadA H46 3 rfl rfl Try.underlying34 rfl sz34 rfl rfl rfl) ?_)
     refine R.l_of rfl (fun ⟨_, _, h⟩ => h) (s_store H46 8 (wt0 rfl) rfl rfl rfl rfl rfl sz34 rfl rfl (cs' := #[.int .i64 ((i : Int)), .int .i64 ((k : Int)), .int .i64 n, .int .i64 ((evS begun dn stopped))]) rfl ?_)
     intro wq47 H48
     refine R.l_of rfl (fun ⟨_, _, h⟩ => h) (s_store H48 7 (wt0 rfl) rfl rfl rfl rfl rfl sz27 rfl rfl (cs' := #[.int .i64 0]) rfl ?_)
     intro wq49 H50
     refine R.g_nil ?_
     refine g_then ?_
     refine R.g_ret ?_
     refine g_in_ret ?_
     have H51 := S.famIn0 (e := 71) (enc := Tk.cells) (gs := adr rows) (tk := tk) (x := x) (H50.takes [1, 2, 0, 3, 4, 5, 6, 7, 8, 9, 10, 11] (by decide)) hx
     have hyes : okS (evS begun dn stopped) til n (tk x) = true := by simp [okS, hb33, hb34]
     exact rs_stop ⟨i, k, x, post, pr, hpost, hJ, hyes, rfl⟩ (H51.takes [3, 4, 5, 1, 6, 7, 8, 9, 0, 10] (by decide))
    ·
     refine R.g_cond_f rfl (decide_eq_false hb34) ?_
     refine R.g_skip ?_
     refine g_in ?_
     have H52 := S.famIn0 (e := 71) (enc := Tk.cells) (gs := adr rows) (tk := tk) (x := x) (H32.takes [1, 2, 0, 3, 4, 5, 6, 7, 8, 9, 10, 11] (by decide)) hx
     have hno : okS (evS begun dn stopped) til n (tk x) = false := by simp [okS, hb33, hb34]
     exact rs_next ⟨forall_snoc hJ hno, rfl⟩ (H52.takes [3, 4, 5, 1, 6, 7, 8, 9, 0, 10] (by decide))
   ·
    refine R.l_of rfl (fun ⟨_, _, h⟩ => h) (s_not (wn1 rfl rfl rfl rfl hb33) rfl rfl ?_)
    refine R.l_of rfl (fun ⟨_, _, h⟩ => h) (s_not (wn1 rfl rfl rfl rfl hb33) rfl rfl ?_)
    refine R.l_of rfl (fun ⟨_, _, h⟩ => h) (s_not (wn1 rfl rfl rfl rfl hb33) rfl rfl ?_)
    refine R.l_of rfl (fun ⟨_, _, h⟩ => h) (s_val (v := .bool false) (wt0 rfl) rfl rfl (x_pick_f rfl rfl hb33 rfl) ?_)
    refine R.g_nil ?_
    refine g_then ?_
    refine g_weak [(2, .pointer (some ⟨g1, 0, none⟩)), (3, .pointer (some ⟨g4, 0, none⟩)), (4, .pointer (some ⟨g7, 0, none⟩)), (5, .pointer (some ⟨g10, 0, none⟩)), (7, .pointer (some ⟨ia, 0, none⟩)), (8, .pointer (some ⟨x, 0, none⟩)), (40, .bool false)] ⟨rfl, rfl, rfl, rfl, rfl, rfl, rfl, trivial⟩ ?_
    refine R.g_cond_f rfl rfl ?_
    refine R.g_skip ?_
    refine g_in ?_
    have H53 := S.famIn0 (e := 71) (enc := Tk.cells) (gs := adr rows) (tk := tk) (x := x) (H32.takes [1, 2, 0, 3, 4, 5, 6, 7, 8, 9, 10, 11] (by decide)) hx
    have hno : okS (evS begun dn stopped) til n (tk x) = false := by simp [okS, hb33]
    exact rs_next ⟨forall_snoc hJ hno, rfl⟩ (H53.takes [3, 4, 5, 1, 6, 7, 8, 9, 0, 10] (by decide))
  ·
   rintro D xs _ W54 rfl ⟨hJ, rfl⟩ H55
   have H56 := S.unbig (H55.takes [1, 0, 2, 3, 4, 5, 6, 7, 8] (by decide))
   refine g_in ?_
   refine g_then ?_
   refine R.g_seq ?_
   refine R.g_region ?_
   refine R.l_of rfl (fun h => hL h) (s_val (v := .agg #[.int .i64 0, .int .i64 0, .int .i64 0, .int .i64 0]) (wt0 rfl) rfl rfl (x_build (vs := []) rfl rfl (cells := #[.int .i64 0, .int .i64 0, .int .i64 0, .int .i64 0]) (by kernel_rfl)) ?_)
   refine R.l_of rfl (fun h => hL h) (s_store H56 6 (wt0 rfl) rfl rfl rfl rfl rfl sz34 rfl rfl (cs' := #[.int .i64 0, .int .i64 0, .int .i64 0, .int .i64 0]) rfl ?_)
   intro wq57 H58
   refine R.l_of rfl (fun h => hL h) (s_store H58 5 (wt0 rfl) rfl rfl rfl rfl rfl sz27 rfl rfl (cs' := #[.int .i64 8]) rfl ?_)
   intro wq59 H60
   refine R.g_nil ?_
   refine g_then ?_
   refine R.g_ret ?_
   refine fin_mark H60 3 rfl [.cell 4 34, .cell 5 27] [.agg #[.int .i64 0, .int .i64 0, .int .i64 0, .int .i64 0], .int .i64 8] rfl (fun wq61 H62 => ⟨⟨⟨_, rfl, run_loadA (H62.ob (k := 6) rfl) Try.underlying34 rfl sz34 rfl rfl⟩, ⟨_, rfl, run_load1 Try.underlying27 rfl (H62.cell (k := 5) rfl rfl)⟩, trivial⟩, ?_⟩)
   exact .inr (.inl ⟨hl0, hJ, rfl, H62.takes [4, 1, 2, 9, 10] (by decide)⟩)
  ·
   rintro D pr _ W63 _ ⟨i, k, x, post, pre0, hpost, hJ, hyes, rfl⟩ H64
   have H65 := S.unbig (H64.takes [1, 0, 2, 3, 4, 5, 6, 7, 8] (by decide))
   refine g_in_ret ?_
   refine g_then_ret ?_
   refine fin_mark H65 3 rfl [.cell 4 34, .cell 5 27] [.agg #[.int .i64 ((i : Int)), .int .i64 ((k : Int)), .int .i64 n, .int .i64 ((evS begun dn stopped))], .int .i64 0] rfl (fun wq66 H67 => ⟨⟨⟨_, rfl, run_loadA (H67.ob (k := 6) rfl) Try.underlying34 rfl sz34 rfl rfl⟩, ⟨_, rfl, run_load1 Try.underlying27 rfl (H67.cell (k := 5) rfl rfl)⟩, trivial⟩, ?_⟩)
   exact .inr (.inr ⟨i, k, x, post, pre0, hpost, hl0, hJ, hyes, rfl, H67.takes [4, 1, 2, 9, 10] (by decide)⟩)
 ·
  have hl0 := hb15
  refine R.g_cond_t rfl (nt hb15) ?_
  refine R.g_seq ?_
  refine R.g_region ?_
  refine R.l_of rfl (fun h => hL h) (s_val (v := .agg #[.int .i64 0, .int .i64 0, .int .i64 0, .int .i64 0]) (wt0 rfl) rfl rfl (x_build (vs := []) rfl rfl (cells := #[.int .i64 0, .int .i64 0, .int .i64 0, .int .i64 0]) (by kernel_rfl)) ?_)
  refine R.l_of rfl (fun h => hL h) (s_val (v := .int .i64 ((tellS now n))) (wt0 rfl) rfl rfl (x_move rfl rfl) ?_)
  refine R.l_of rfl (fun h => hL h) (s_store H14 2 (wt0 rfl) rfl rfl rfl rfl rfl sz34 rfl rfl (cs' := #[.int .i64 0, .int .i64 0, .int .i64 0, .int .i64 0]) rfl ?_)
  intro wq68 H69
  refine R.l_of rfl (fun h => hL h) (s_store H69 1 (wt0 rfl) rfl rfl rfl rfl rfl sz27 rfl rfl (cs' := #[.int .i64 ((tellS now n))]) rfl ?_)
  intro wq70 H71
  refine R.g_nil ?_
  refine g_then ?_
  refine g_weak [(4, .pointer (some ⟨g7, 0, none⟩)), (5, .pointer (some ⟨g10, 0, none⟩))] ⟨rfl, rfl, trivial⟩ ?_
  refine R.g_ret ?_
  refine g_then_ret ?_
  refine fin_plain [.cell 4 34, .cell 5 27] [.agg #[.int .i64 0, .int .i64 0, .int .i64 0, .int .i64 0], .int .i64 ((tellS now n))] rfl ⟨⟨_, rfl, run_loadA (H71.ob (k := 2) rfl) Try.underlying34 rfl sz34 rfl rfl⟩, ⟨_, rfl, run_load1 Try.underlying27 rfl (H71.cell (k := 1) rfl rfl)⟩, trivial⟩ ?_
  exact .inl ⟨hl0, rfl, H71.takes [0, 5, 6, 7, 8] (by decide)⟩
set_option maxRecDepth 20000 in
set_option maxHeartbeats 4000000 in
set_option maxRecDepth 20000 in
set_option maxHeartbeats 4000000 in
theorem next_u {g nr C : Nat} {P : Option Addr} {mp : Value} {ev now til : Int} {begun whole dn stopped : Bool} {n : Int} {y : Nat}  (w : World) (HS : S w [Ob g (.cells #[.pointer (some ⟨y, 0, none⟩), .int .i64 ev, .slice P nr C, mp, .int .i64 now, .int .i64 til, .bool begun, .bool whole, .bool dn, .bool stopped] 64 (0, 0))]) : Calls Try.prog 11 #[.pointer (some ⟨g, 0, none⟩), .int .i64 n] w fun e w' => e = .returned (.tuple #[.agg #[.int .i64 0, .int .i64 0, .int .i64 0, .int .i64 0], .int .i64 (if tellS now n = 0 then 9 else tellS now n)]) ∧ S w' ([Ob g (.cells #[.pointer (some ⟨y, 0, none⟩), .int .i64 ev, .slice P nr C, mp, .int .i64 now, .int .i64 til, .bool begun, .bool whole, .bool dn, .bool stopped] 64 (0, 0))] ++ [Old w (fps [Ob g (.cells #[.pointer (some ⟨y, 0, none⟩), .int .i64 ev, .slice P nr C, mp, .int .i64 now, .int .i64 til, .bool begun, .bool whole, .bool dn, .bool stopped] 64 (0, 0))])]) := by
 have H0 := HS.beginI
 refine enter 59 Try.func11 rfl rfl rfl ?_
 refine g_weak [(0, .pointer (some ⟨g, 0, none⟩)), (1, .int .i64 n)] ⟨rfl, rfl, trivial⟩ ?_
 refine g_seq ?_
 refine g_region ?_
 refine l_of (s_box H0 (wt0 rfl) rfl rfl rfl rfl ?_)
 intro g1 wq2 H3
 refine l_of (s_box H3 (wt0 rfl) rfl rfl rfl rfl ?_)
 intro g4 wq5 H6
 refine l_of (s_alloc H6 (wt0 rfl) rfl rfl rfl ze34 ?_)
 intro g7 wq8 H9
 refine l_of (s_alloc H9 (wt0 rfl) rfl rfl rfl ze27 ?_)
 intro g10 wq11 H12
 refine g_nil ?_
 refine g_then ?_
 refine g_seq ?_
 refine g_seq ?_
 refine g_region ?_
 refine l_of (s_val (v := .pointer (some ⟨g, 0, none⟩)) (wt0 rfl) rfl rfl (x_load1 H12 3 rfl rfl Try.underlying26 rfl rfl rfl) ?_)
 refine l_of (s_val (v := .int .i64 n) (wt0 rfl) rfl rfl (x_load1 H12 2 rfl rfl Try.underlying3 rfl rfl rfl) ?_)
 refine l_of (s_call (wt0 rfl) (x_call' rfl rfl cl31) (tell_s  _ (H12.takes [4] (by decide))) ?_)
 rintro _ wq13 ⟨rfl, H14⟩
 replace H14 : S wq13 [Ob g (.cells #[.pointer (some ⟨y, 0, none⟩), .int .i64 ev, .slice P nr C, mp, .int .i64 now, .int .i64 til, .bool begun, .bool whole, .bool dn, .bool stopped] 64 (0, 0)), Ob g10 (.cells #[.int .i64 0] 27 (0, 0)), Ob g7 (.cells #[.int .i64 0, .int .i64 0, .int .i64 0, .int .i64 0] 34 (0, 0)), Ob g4 (.cells #[.int .i64 n] 3 (0, 0)), Ob g1 (.cells #[.pointer (some ⟨g, 0, none⟩)] 26 (0, 0)), Old w (fps [Ob g (.cells #[.pointer (some ⟨y, 0, none⟩), .int .i64 ev, .slice P nr C, mp, .int .i64 now, .int .i64 til, .bool begun, .bool whole, .bool dn, .bool stopped] 64 (0, 0))])] := H12.absorbI (new := [Ob g (.cells #[.pointer (some ⟨y, 0, none⟩), .int .i64 ev, .slice P nr C, mp, .int .i64 now, .int .i64 til, .bool begun, .bool whole, .bool dn, .bool stopped] 64 (0, 0))]) [4] H14
 refine b_ret rfl rfl ?_
 refine l_of (s_val (v := .int .i64 ((tellS now n))) (wt0 rfl) rfl rfl (x_assign rfl rfl) ?_)
 refine g_nil ?_
 refine g_then ?_
 refine g_seq ?_
 refine g_region ?_
 refine l_of (s_val (v := .int .i64 ((tellS now n))) (wt0 rfl) rfl rfl (x_move rfl rfl) ?_)
 refine l_of (s_val (v := .bool (!decide (((tellS now n) : Int) = 0))) (wt0 rfl) rfl rfl (x_bin rfl rfl rfl b_neq) ?_)
 refine g_nil ?_
 refine g_then ?_
 by_cases hb15 : ((tellS now n) : Int) = 0
 ·
  refine g_cond_f rfl (nf hb15) ?_
  refine g_skip ?_
  refine g_then ?_
  refine g_seq ?_
  refine g_seq ?_
  refine g_region ?_
  refine l_of (s_val (v := .pointer (some ⟨g, 0, none⟩)) (wt0 rfl) rfl rfl (x_load1 H14 4 rfl rfl Try.underlying26 rfl rfl rfl) ?_)
  refine l_of (s_val (v := .pointer (some ⟨g, 0, none⟩)) (wt0 rfl) rfl rfl (x_nilCheck rfl rfl) ?_)
  refine l_of (s_val (v := .pointer (some ⟨g, 0, none⟩)) (wt0 rfl) rfl rfl (x_fieldAddr rfl rfl fo64_0 rfl) ?_)
  refine l_of (s_val (v := .pointer (some ⟨g, 0, none⟩)) (wt0 rfl) rfl rfl (x_fieldAddr rfl rfl fo61_0 rfl) ?_)
  refine l_of (s_val (v := .pointer (some ⟨y, 0, none⟩)) (wt0 rfl) rfl rfl (x_load1 H14 0 rfl rfl Try.underlying59 rfl rfl rfl) ?_)
  refine l_of (s_val (v := .bool true) (wt0 rfl) rfl rfl (x_bin rfl rfl rfl (b_neN (r := false) Try.underlying59 rfl)) ?_)
  refine g_nil ?_
  refine g_then ?_
  refine g_weak [(2, .pointer (some ⟨g1, 0, none⟩)), (3, .pointer (some ⟨g4, 0, none⟩)), (4, .pointer (some ⟨g7, 0, none⟩)), (5, .pointer (some ⟨g10, 0, none⟩)), (23, .bool true)] ⟨rfl, rfl, rfl, rfl, rfl, trivial⟩ ?_
  refine g_cond_t rfl rfl ?_
  refine g_seq ?_
  refine g_region ?_
  refine l_of (s_val (v := .agg #[.int .i64 0, .int .i64 0, .int .i64 0, .int .i64 0]) (wt0 rfl) rfl rfl (x_build (vs := []) rfl rfl (cells := #[.int .i64 0, .int .i64 0, .int .i64 0, .int .i64 0]) (by kernel_rfl)) ?_)
  refine l_of (s_store H14 2 (wt0 rfl) rfl rfl rfl rfl rfl sz34 rfl rfl (cs' := #[.int .i64 0, .int .i64 0, .int .i64 0, .int .i64 0]) rfl ?_)
  intro wq16 H17
  refine l_of (s_store H17 1 (wt0 rfl) rfl rfl rfl rfl rfl sz27 rfl rfl (cs' := #[.int .i64 9]) rfl ?_)
  intro wq18 H19
  refine g_nil ?_
  refine g_then ?_
  refine g_ret ?_
  refine g_then_ret ?_
  refine fin_ret [.cell 4 34, .cell 5 27] [.agg #[.int .i64 0, .int .i64 0, .int .i64 0, .int .i64 0], .int .i64 9] rfl ⟨⟨_, rfl, run_loadA (H19.ob (k := 2) rfl) Try.underlying34 rfl sz34 rfl rfl⟩, ⟨_, rfl, run_load1 Try.underlying27 rfl (H19.cell (k := 1) rfl rfl)⟩, trivial⟩ ?_
  exact ⟨by rw [if_pos hb15]; rfl, H19.takes [0, 5] (by decide)⟩
 ·
  refine g_cond_t rfl (nt hb15) ?_
  refine g_seq ?_
  refine g_region ?_
  refine l_of (s_val (v := .agg #[.int .i64 0, .int .i64 0, .int .i64 0, .int .i64 0]) (wt0 rfl) rfl rfl (x_build (vs := []) rfl rfl (cells := #[.int .i64 0, .int .i64 0, .int .i64 0, .int .i64 0]) (by kernel_rfl)) ?_)
  refine l_of (s_val (v := .int .i64 ((tellS now n))) (wt0 rfl) rfl rfl (x_move rfl rfl) ?_)
  refine l_of (s_store H14 2 (wt0 rfl) rfl rfl rfl rfl rfl sz34 rfl rfl (cs' := #[.int .i64 0, .int .i64 0, .int .i64 0, .int .i64 0]) rfl ?_)
  intro wq20 H21
  refine l_of (s_store H21 1 (wt0 rfl) rfl rfl rfl rfl rfl sz27 rfl rfl (cs' := #[.int .i64 ((tellS now n))]) rfl ?_)
  intro wq22 H23
  refine g_nil ?_
  refine g_then ?_
  refine g_weak [(4, .pointer (some ⟨g7, 0, none⟩)), (5, .pointer (some ⟨g10, 0, none⟩))] ⟨rfl, rfl, trivial⟩ ?_
  refine g_ret ?_
  refine g_then_ret ?_
  refine fin_ret [.cell 4 34, .cell 5 27] [.agg #[.int .i64 0, .int .i64 0, .int .i64 0, .int .i64 0], .int .i64 ((tellS now n))] rfl ⟨⟨_, rfl, run_loadA (H23.ob (k := 2) rfl) Try.underlying34 rfl sz34 rfl rfl⟩, ⟨_, rfl, run_load1 Try.underlying27 rfl (H23.cell (k := 1) rfl rfl)⟩, trivial⟩ ?_
  exact ⟨by rw [if_neg hb15]; rfl, H23.takes [0, 5] (by decide)⟩
end Go.Proofs.Ytibdlnjnomikjaa
