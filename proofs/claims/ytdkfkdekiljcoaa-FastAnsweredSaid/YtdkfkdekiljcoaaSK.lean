import Derived.Test.YtdkfkdekiljcoaaSI
set_option linter.unusedSimpArgs false
set_option linter.unusedVariables false
namespace Go.Proofs.Ytdkfkdekiljcoaa
open Go.RowKit

theorem cl23 : callable Try.prog 23 = true := by kernel_rfl
theorem fo54_0 : foO Try.prog 54 0 = some 0 := by kernel_rfl
theorem fo54_3 : foO Try.prog 54 3 = some 3 := by kernel_rfl
theorem fo57_1 : foO Try.prog 57 1 = some 5 := by kernel_rfl
theorem sz54 : szO Try.prog 54 = some 7 := by kernel_rfl
/-- Where what a way holds lies. -/
structure Ad where
  pa : Option Addr
  ca : Nat
  pw : Option Addr
  cw : Nat
  mg : Nat
/-- What is known of a sender. -/
structure Wy where
  bg : Bool
  ck : Bool
  wt : Bool
  fd : ByteArray
  al : List Int
  wa : List Ch
  go : Ch → Option Bool
structure Co where
  n : Int
  pi : Int
  la : Int
  qu : Int
  ft : Bool
def chK (c : Ch) : Value := .agg #[.int .i64 c.p, .int .i64 c.b, .int .i64 c.n]
def inI (x : Int) : Prop := -9223372036854775808 ≤ x ∧ x ≤ 9223372036854775807
def chOk (c : Ch) : Prop := inI c.p ∧ inI c.b ∧ inI c.n
/-- The cells of a side: of a direction's way, then of the other one. -/
def sgC (o : Bool) (c : Co) (X Y : List Value) : Array Value := (([.int .i64 c.n, .int .i64 c.pi, .int .i64 c.la, .int .i64 c.qu, .bool c.ft] : List Value) ++ (bif o then Y ++ X else X ++ Y)).toArray
def offO (o : Bool) : Nat := bif o then 12 else 5
def offP (o : Bool) : Nat := bif o then 5 else 12
def wN (o : Bool) : Nat := bif o then 1 else 0
theorem wN_lt (o : Bool) : wN o < 2 := by cases o <;> decide
theorem way_offO (o : Bool) : 5 + wN o * 7 = offO o := by cases o <;> rfl
theorem way_offP (o : Bool) : 5 + wN (!o) * 7 = offP o := by cases o <;> rfl
theorem sgC_c {o : Bool} {c : Co} {X Y : List Value} {k : Nat} {v : Value} (h : ([.int .i64 c.n, .int .i64 c.pi, .int .i64 c.la, .int .i64 c.qu, .bool c.ft] : List Value)[k]? = some v) : (sgC o c X Y)[k]? = some v := by
  unfold sgC
  rw [List.getElem?_toArray, List.getElem?_append, if_pos (List.getElem?_eq_some_iff.1 h).1]; exact h
theorem sgC_o {o : Bool} {c : Co} {X Y : List Value} {k : Nat} {v : Value} (hX : X.length = 7) (hY : Y.length = 7) (h : X[k]? = some v) : (sgC o c X Y)[offO o + k]? = some v := by
  have hk : k < 7 := by have := (List.getElem?_eq_some_iff.1 h).1; omega
  match X, hX with
  | [x0, x1, x2, x3, x4, x5, x6], _ =>
    match Y, hY with
    | [y0, y1, y2, y3, y4, y5, y6], _ =>
      rw [← h]
      rcases (show k = 0 ∨ k = 1 ∨ k = 2 ∨ k = 3 ∨ k = 4 ∨ k = 5 ∨ k = 6 by omega) with rfl | rfl | rfl | rfl | rfl | rfl | rfl <;> cases o <;> rfl
theorem sgC_so {o : Bool} {c : Co} {X Y : List Value} {k : Nat} {v : Value} (hX : X.length = 7) (hY : Y.length = 7) (hk : k < 7) : (sgC o c X Y).setIfInBounds (offO o + k) v = sgC o c (X.set k v) Y := by
  match X, hX with
  | [x0, x1, x2, x3, x4, x5, x6], _ =>
    match Y, hY with
    | [y0, y1, y2, y3, y4, y5, y6], _ => rcases (show k = 0 ∨ k = 1 ∨ k = 2 ∨ k = 3 ∨ k = 4 ∨ k = 5 ∨ k = 6 by omega) with rfl | rfl | rfl | rfl | rfl | rfl | rfl <;> cases o <;> rfl
theorem sgC_ol {o : Bool} {c : Co} {X Y : List Value} {k : Nat} (hX : X.length = 7) (hY : Y.length = 7) (hk : k < 7) : offO o + k < (sgC o c X Y).size := by
  unfold sgC offO
  cases o <;> simp [hX, hY] <;> omega
theorem sgC_p {o : Bool} {c : Co} {X Y : List Value} {k : Nat} {v : Value} (hX : X.length = 7) (hY : Y.length = 7) (h : Y[k]? = some v) : (sgC o c X Y)[offP o + k]? = some v := by
  have hk : k < 7 := by have := (List.getElem?_eq_some_iff.1 h).1; omega
  match X, hX with
  | [x0, x1, x2, x3, x4, x5, x6], _ =>
    match Y, hY with
    | [y0, y1, y2, y3, y4, y5, y6], _ =>
      rw [← h]
      rcases (show k = 0 ∨ k = 1 ∨ k = 2 ∨ k = 3 ∨ k = 4 ∨ k = 5 ∨ k = 6 by omega) with rfl | rfl | rfl | rfl | rfl | rfl | rfl <;> cases o <;> rfl
theorem sgC_sp {o : Bool} {c : Co} {X Y : List Value} {k : Nat} {v : Value} (hX : X.length = 7) (hY : Y.length = 7) (hk : k < 7) : (sgC o c X Y).setIfInBounds (offP o + k) v = sgC o c X (Y.set k v) := by
  match X, hX with
  | [x0, x1, x2, x3, x4, x5, x6], _ =>
    match Y, hY with
    | [y0, y1, y2, y3, y4, y5, y6], _ => rcases (show k = 0 ∨ k = 1 ∨ k = 2 ∨ k = 3 ∨ k = 4 ∨ k = 5 ∨ k = 6 by omega) with rfl | rfl | rfl | rfl | rfl | rfl | rfl <;> cases o <;> rfl
theorem sgC_pl {o : Bool} {c : Co} {X Y : List Value} {k : Nat} (hX : X.length = 7) (hY : Y.length = 7) (hk : k < 7) : offP o + k < (sgC o c X Y).size := by
  unfold sgC offP
  cases o <;> simp [hX, hY] <;> omega
abbrev sgI (g : Nat) (c : Co) (o : Bool) (A : Ad) (B : Ad) (a : Wy) (b : Wy) : Item := Ob g (.cells (sgC o c [.bool a.bg, .bool a.ck, .bool a.wt, .string (a.fd), .slice A.pa a.al.length A.ca, .slice A.pw a.wa.length A.cw, .map (some A.mg)] [.bool b.bg, .bool b.ck, .bool b.wt, .string (b.fd), .slice B.pa b.al.length B.ca, .slice B.pw b.wa.length B.cw, .map (some B.mg)]) 57 (0, 0))
abbrev alI (A : Ad) (a : Wy) : Item := Rw 3 1 A.pa a.al.length A.ca (zV a.al)
abbrev waI (A : Ad) (a : Wy) : Item := Rw 49 3 A.pw a.wa.length A.cw (chV a.wa)
abbrev goI (A : Ad) (a : Wy) : Item := Mp chK Value.bool chOk A.mg a.go
abbrev mgI (g : Nat) (m : M) : Item := Ob g (.cells #[.int .i64 (m.kind), .int .i64 (m.i1), .int .i64 (m.i2), .int .i64 (m.i3), .int .i64 (m.i4), .int .i64 (m.i5), .string (m.root), .string (m.data)] 33 (0, 0))
abbrev ddI (g : Nat) (sg : Nat) (o : Bool) (m : M) : Item := Ob g (.cells #[.pointer (some ⟨sg, 0, none⟩), .int .i64 (m.kind), .int .i64 (m.i1), .int .i64 (m.i2), .int .i64 (m.i3), .int .i64 (m.i4), .int .i64 (m.i5), .string (m.root), .string (m.data), .pointer (some ⟨sg, offO o, none⟩), .pointer (some ⟨sg, offP o, none⟩)] 75 (0, 0))
abbrev olS (w : World) (g : Nat) (c : Co) (o : Bool) (A : Ad) (B : Ad) (a : Wy) (b : Wy) : Item := Old w (fps [sgI g c o A B a b, alI A a, waI A a, goI A a, alI B b, waI B b, goI B b])
theorem way_o (o : Bool) (w : World) : Calls Try.prog 23 #[.bool o] w fun e w' => e = .returned (.int .i64 ((wN o : Nat) : Int)) ∧ S w' [Old w no] := by
  have := way_s o w
  cases o <;> exact this
theorem way_p (o : Bool) (w : World) : Calls Try.prog 23 #[.bool (!o)] w fun e w' => e = .returned (.int .i64 ((wN (!o) : Nat) : Int)) ∧ S w' [Old w no] := way_o (!o) w
end Go.Proofs.Ytdkfkdekiljcoaa
