import Derived.Test.YtibdlnjnomikjaaTx
set_option linter.unusedSimpArgs false
set_option linter.unusedVariables false
namespace Go.Proofs.Ytibdlnjnomikjaa
open Go.RowKit

theorem tellS_ok {a b : Int} (h : a ≤ b) (h2 : b ≤ 1000000000) : tellS a b = 0 := by
  unfold tellS; rw [if_neg (by omega)]
theorem look_I (x : Option Int) : (x.map (fun x : Int => Value.int .i64 x)).getD (.int .i64 0) = .int .i64 (x.getD 0) := by cases x <;> rfl
theorem tmod_lt (x : Int) {m : Int} (h : 0 < m) : -m < x.tmod m ∧ x.tmod m < m := by
  refine ⟨?_, Int.tmod_lt_of_pos x h⟩
  exact Int.lt_tmod_of_pos x h
theorem front_first {x : Nat} {l : List Nat} (h : x ∈ l) : (frontL x l)[0]? = some x := by
  unfold frontL; rw [if_pos h]; rfl
theorem names_at {tk : Nat → Tk} {l : List Nat} {k x : Nat} (h : l[k]? = some x) : (namesT tk l)[k]? = some (tk x).name := by
  unfold namesT; rw [List.getElem?_map, h]; rfl
theorem fail_f {g nr C y : Nat} {P : Option Addr} {mp : Value} {ev now til n : Int} {begun whole dn stopped : Bool} {gs : List Nat} {tk : Nat → Tk} (hy : y ∈ gs) (h0 : 0 ≤ (tk y).failed) (h1 : (tk y).failed ≤ 100000) (h2 : 0 ≤ now) (w : World) (HS : S w [Ob g (.cells #[.pointer (some ⟨y, 0, none⟩), .int .i64 ev, .slice P nr C, mp, .int .i64 now, .int .i64 til, .bool begun, .bool whole, .bool dn, .bool stopped] 64 (0, 0)), Fam 71 Tk.cells gs tk]) : Calls Try.prog 14 #[.pointer (some ⟨g, 0, none⟩), .int .i64 n] w fun e w' =>
    (tellS now n ≠ 0 ∧ e = .returned (.int .i64 (tellS now n)) ∧ S w' ([Ob g (.cells #[.pointer (some ⟨y, 0, none⟩), .int .i64 ev, .slice P nr C, mp, .int .i64 now, .int .i64 til, .bool begun, .bool whole, .bool dn, .bool stopped] 64 (0, 0)), Fam 71 Tk.cells gs tk] ++ [Old w (fps [Ob g (.cells #[.pointer (some ⟨y, 0, none⟩), .int .i64 ev, .slice P nr C, mp, .int .i64 now, .int .i64 til, .bool begun, .bool whole, .bool dn, .bool stopped] 64 (0, 0)), Fam 71 Tk.cells gs tk])])) ∨ (tellS now n = 0 ∧ e = .returned (.int .i64 0) ∧ S w' ([Ob g (.cells #[.pointer none, .int .i64 0, .slice P nr C, mp, .int .i64 n, .int .i64 til, .bool begun, .bool whole, .bool dn, .bool stopped] 64 (0, 0)), Fam 71 Tk.cells gs (upd tk y ⟨(tk y).name, (tk y).failed + 1, n + waitS ((tk y).failed + 1), (tk y).ans, (tk y).told || decide (ev = 2)⟩)] ++ [Old w (fps [Ob g (.cells #[.pointer (some ⟨y, 0, none⟩), .int .i64 ev, .slice P nr C, mp, .int .i64 now, .int .i64 til, .bool begun, .bool whole, .bool dn, .bool stopped] 64 (0, 0)), Fam 71 Tk.cells gs tk])])) := by
  have H0 := HS.beginI
  have H1 : S w [Ob y (.cells (Tk.cells (tk y)) 71 (0, 0)), Fam 71 Tk.cells (gs.erase y) tk, Ob g (.cells #[.pointer (some ⟨y, 0, none⟩), .int .i64 ev, .slice P nr C, mp, .int .i64 now, .int .i64 til, .bool begun, .bool whole, .bool dn, .bool stopped] 64 (0, 0)), Old w (fps [Ob g (.cells #[.pointer (some ⟨y, 0, none⟩), .int .i64 ev, .slice P nr C, mp, .int .i64 now, .int .i64 til, .bool begun, .bool whole, .bool dn, .bool stopped] 64 (0, 0)), Fam 71 Tk.cells gs tk])] := S.famOut (e := 71) (enc := Tk.cells) (gs := gs) (tk := tk) (H0.takes [1, 0, 2] (by decide)) hy
  refine (fail_s h0 h1 h2 w (H1.takes [2, 0] (by decide))).mono ?_
  rintro e w' (⟨a, b, H⟩ | ⟨a, b, H⟩)
  · have H2 : S w' [Ob g (.cells #[.pointer (some ⟨y, 0, none⟩), .int .i64 ev, .slice P nr C, mp, .int .i64 now, .int .i64 til, .bool begun, .bool whole, .bool dn, .bool stopped] 64 (0, 0)), Ob y (.cells (Tk.cells (tk y)) 71 (0, 0)), Fam 71 Tk.cells (gs.erase y) tk, Old w (fps [Ob g (.cells #[.pointer (some ⟨y, 0, none⟩), .int .i64 ev, .slice P nr C, mp, .int .i64 now, .int .i64 til, .bool begun, .bool whole, .bool dn, .bool stopped] 64 (0, 0)), Fam 71 Tk.cells gs tk])] := H1.absorbI (new := [Ob g (.cells #[.pointer (some ⟨y, 0, none⟩), .int .i64 ev, .slice P nr C, mp, .int .i64 now, .int .i64 til, .bool begun, .bool whole, .bool dn, .bool stopped] 64 (0, 0)), Ob y (.cells (Tk.cells (tk y)) 71 (0, 0))]) [2, 0] H
    exact .inl ⟨a, b, (S.famIn0 (e := 71) (enc := Tk.cells) (gs := gs) (tk := tk) (x := y) (H2.takes [1, 2, 0, 3] (by decide)) hy).takes [1, 0, 2] (by decide)⟩
  · have H2 : S w' [Ob g (.cells #[.pointer none, .int .i64 0, .slice P nr C, mp, .int .i64 n, .int .i64 til, .bool begun, .bool whole, .bool dn, .bool stopped] 64 (0, 0)), Ob y (.cells (Tk.cells ⟨(tk y).name, (tk y).failed + 1, n + waitS ((tk y).failed + 1), (tk y).ans, (tk y).told || decide (ev = 2)⟩) 71 (0, 0)), Fam 71 Tk.cells (gs.erase y) tk, Old w (fps [Ob g (.cells #[.pointer (some ⟨y, 0, none⟩), .int .i64 ev, .slice P nr C, mp, .int .i64 now, .int .i64 til, .bool begun, .bool whole, .bool dn, .bool stopped] 64 (0, 0)), Fam 71 Tk.cells gs tk])] := H1.absorbI (new := [Ob g (.cells #[.pointer none, .int .i64 0, .slice P nr C, mp, .int .i64 n, .int .i64 til, .bool begun, .bool whole, .bool dn, .bool stopped] 64 (0, 0)), Ob y (.cells (Tk.cells ⟨(tk y).name, (tk y).failed + 1, n + waitS ((tk y).failed + 1), (tk y).ans, (tk y).told || decide (ev = 2)⟩) 71 (0, 0))]) [2, 0] H
    exact .inr ⟨a, b, (S.famIn (e := 71) (enc := Tk.cells) (gs := gs) (tk := tk) (x := y) (a := ⟨(tk y).name, (tk y).failed + 1, n + waitS ((tk y).failed + 1), (tk y).ans, (tk y).told || decide (ev = 2)⟩) (H2.takes [1, 2, 0, 3] (by decide)) hy).takes [1, 0, 2] (by decide)⟩
def intsV (l : List Int) : List Value := l.map fun x => .int .i64 x
theorem ints_at {l : List Int} {j : Nat} {x : Int} (h : l[j]? = some x) : (intsV l)[j * 1]? = some (.int .i64 x) := by
  unfold intsV; rw [Nat.mul_one, List.getElem?_map, h]; rfl
end Go.Proofs.Ytibdlnjnomikjaa
