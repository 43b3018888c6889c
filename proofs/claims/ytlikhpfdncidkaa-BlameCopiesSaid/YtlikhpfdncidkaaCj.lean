import Derived.Test.YtlikhpfdncidkaaCi
set_option linter.unusedSimpArgs false
set_option linter.unusedVariables false
namespace Go.Proofs.Ytlikhpfdncidkaa
open Go.RowKit

def RM.L (X : RM) : List Item := [Ob X.b (.cells #[.map (some X.m1), .map (some X.m2), .map (some X.m3), .map (some X.m4)] 88 (0, 0)), Mp (Value.int .i64) roV okI X.m1 X.nw, Mp (Value.int .i64) roV okI X.m2 X.od, Mp (Value.int .i64) Value.bool okI X.m3 X.bn, Mp (Value.int .i64) (Value.int .i64) okI X.m4 X.sc]
def RM.I (X : RM) : Item := Big X.L
def stL (s : RSt) : List Item := [RowsI 109 5 e5L s.rs, RowsI 94 1 rowL s.ts]
def stI (s : RSt) : Item := Big (stL s)
def RM.ok (X : RM) (s : RSt) : Prop := RI X.nw X.od s
theorem fps_two {L M : List Item} : fps [Big L, Big M] = fps (L ++ M) := by
  funext g
  refine propext ⟨fun ⟨it, h1, h2⟩ => ?_, fun ⟨it, h1, h2⟩ => ?_⟩
  · rcases List.mem_cons.1 h1 with rfl | h1
    · obtain ⟨x, hx, hg⟩ := h2
      exact ⟨x, List.mem_append_left _ hx, hg⟩
    · rw [List.mem_singleton] at h1; subst h1
      obtain ⟨x, hx, hg⟩ := h2
      exact ⟨x, List.mem_append_right _ hx, hg⟩
  · rcases List.mem_append.1 h1 with h | h
    · exact ⟨Big L, List.mem_cons_self .., it, h, h2⟩
    · exact ⟨Big M, List.mem_cons_of_mem _ (List.mem_singleton.2 rfl), it, h, h2⟩
theorem RM.open (X : RM) (s : RSt) {w : World} (h : S w [X.I, stI s]) : S w (X.L ++ stL s) := by
  have h1 := S.unbig (L := X.L) h
  have h2 := S.unbig (L := stL s) (h1.takes [5, 0, 1, 2, 3, 4] (by decide))
  exact h2.takes [2, 3, 4, 5, 6, 0, 1] (by decide)
theorem RM.shut (X : RM) (s : RSt) {w : World} {a : List Item} {o : Item} (h : S w (X.L ++ stL s ++ [o])) : S w ([X.I, stI s] ++ [o]) := by
  have h2 := S.big (L := X.L) (B := stL s ++ [o]) h
  exact (S.big (L := stL s) (B := [X.I, o]) (h2.takes [1, 2, 0, 3] (by decide))).takes [1, 0, 2] (by decide)
theorem RM.shut1 (X : RM) (s : RSt) {w : World} {r o : Item} (h : S w ([r] ++ X.L ++ stL s ++ [o])) : S w ([r, X.I, stI s] ++ [o]) := by
  have h2 := S.big (L := X.L) (B := [r] ++ stL s ++ [o]) (h.takes [1, 2, 3, 4, 5, 0, 6, 7, 8] (by decide))
  exact (S.big (L := stL s) (B := [X.I, r, o]) (h2.takes [2, 3, 0, 1, 4] (by decide))).takes [2, 1, 0, 3] (by decide)
section
variable {X : RM} {s : RSt} {A A' : BS} {g : Nat} {k : Int} {kb : Bool} {R : List Int}
theorem rnew_q (w : World) : Calls Try.prog 19 #[] w fun e w' => ∃ (Y : RM), Y.ok ⟨[], []⟩ ∧ Y.A = BS.none ∧ e = .returned (.pointer (some ⟨Y.b, 0, none⟩)) ∧ S w' ([Y.I, stI ⟨[], []⟩] ++ [Old w no]) := by
  refine (rnew_s w).mono ?_
  rintro e w' ⟨b, m1, m2, m3, m4, rfl, h⟩
  have h2 := (h.rowsNil (α := Ro E5) (e := 94) (size := 1) (enc := rowL)).rowsNil (α := E5) (e := 109) (size := 5) (enc := e5L)
  exact ⟨⟨b, m1, m2, m3, m4, fun _ => none, fun _ => none, fun _ => none, fun _ => none⟩, RI.nil, rfl, rfl, RM.shut _ ⟨[], []⟩ (a := []) (h2.takes [2, 3, 4, 5, 6, 0, 1, 7] (by decide))⟩
theorem rsent_q (hX : X.ok s) (hg : X.b = g) (hA : X.A = A) {p i bg ln : Int} {data : ByteArray} (hp : okI p) (hi : okI i) (hk : sentE A p i bg ln data = k) (hA' : sentA A p i bg ln data = A') (w : World) (HS : S w [X.I, stI s]) : Calls Try.prog 45 #[.pointer (some ⟨g, 0, none⟩), .int .i64 p, .agg #[.int .i64 i, .int .i64 bg, .int .i64 ln], .string data] w fun e w' => ∃ (Y : RM) (t : RSt) , Y.b = g ∧ Y.ok t ∧ s.le t ∧ Y.A = A' ∧ e = .returned (.int .i64 k) ∧ S w' ([Y.I, stI t] ++ [Old w (fps [X.I, stI s])]) := by
  subst hg; subst hA; subst hk; subst hA'
  have hf : fps (X.L ++ stL s) = fps [X.I, stI s] := fps_two.symm
  refine (rsent_s (hR := hX) hp hi w (X.open s HS)).mono ?_
  rintro e w' ⟨nw', od', bn', sc', rs', ts', hR', hle, hA', rfl, h⟩
  rw [← hf]
  exact ⟨⟨X.b, X.m1, X.m2, X.m3, X.m4, nw', od', bn', sc'⟩, ⟨rs', ts'⟩, rfl, hR', hle, hA', rfl, RM.shut ⟨X.b, X.m1, X.m2, X.m3, X.m4, nw', od', bn', sc'⟩ ⟨rs', ts'⟩ (a := []) h⟩
theorem rproved_q (hX : X.ok s) (hg : X.b = g) (hA : X.A = A) {p i bg ln : Int} {gd : Bool} (hp : okI p) (hi : okI i) (hk : provE A p i bg ln = k) (hR : provR A p i bg ln gd = kb) (hA' : provA A p i bg ln gd = A') (w : World) (HS : S w [X.I, stI s]) : Calls Try.prog 43 #[.pointer (some ⟨g, 0, none⟩), .int .i64 p, .agg #[.int .i64 i, .int .i64 bg, .int .i64 ln], .bool gd] w fun e w' => ∃ (Y : RM) (t : RSt) , Y.b = g ∧ Y.ok t ∧ s.le t ∧ Y.A = A' ∧ e = .returned (.tuple #[.bool kb, .int .i64 k]) ∧ S w' ([Y.I, stI t] ++ [Old w (fps [X.I, stI s])]) := by
  subst hg; subst hA; subst hk; subst hR; subst hA'
  have hf : fps (X.L ++ stL s) = fps [X.I, stI s] := fps_two.symm
  refine (rproved_s (hR := hX) hp hi w (X.open s HS)).mono ?_
  rintro e w' ⟨nw', od', bn', sc', rs', ts', hR', hle, hA', rfl, h⟩
  rw [← hf]
  exact ⟨⟨X.b, X.m1, X.m2, X.m3, X.m4, nw', od', bn', sc'⟩, ⟨rs', ts'⟩, rfl, hR', hle, hA', rfl, RM.shut ⟨X.b, X.m1, X.m2, X.m3, X.m4, nw', od', bn', sc'⟩ ⟨rs', ts'⟩ (a := []) h⟩
theorem rdrop_q (hX : X.ok s) (hg : X.b = g) (hA : X.A = A) {i : Int} (hi : okI i) (hk : endE A i = k) (hA' : dropA A i = A') (w : World) (HS : S w [X.I, stI s]) : Calls Try.prog 44 #[.pointer (some ⟨g, 0, none⟩), .int .i64 i] w fun e w' => ∃ (Y : RM) (t : RSt) , Y.b = g ∧ Y.ok t ∧ s.le t ∧ Y.A = A' ∧ e = .returned (.int .i64 k) ∧ S w' ([Y.I, stI t] ++ [Old w (fps [X.I, stI s])]) := by
  subst hg; subst hA; subst hk; subst hA'
  have hf : fps (X.L ++ stL s) = fps [X.I, stI s] := fps_two.symm
  refine (rdrop_s (hR := hX) hi w (X.open s HS)).mono ?_
  rintro e w' ⟨nw', od', bn', sc', rs', ts', hR', hle, hA', rfl, h⟩
  rw [← hf]
  exact ⟨⟨X.b, X.m1, X.m2, X.m3, X.m4, nw', od', bn', sc'⟩, ⟨rs', ts'⟩, rfl, hR', hle, hA', rfl, RM.shut ⟨X.b, X.m1, X.m2, X.m3, X.m4, nw', od', bn', sc'⟩ ⟨rs', ts'⟩ (a := []) h⟩
theorem rfail_q (hX : X.ok s) (hg : X.b = g) (hA : X.A = A) {i : Int} (hi : okI i) (hk : endE A i = k) (hR : failR A i = R) (hA' : failA A i = A') (w : World) (HS : S w [X.I, stI s]) : Calls Try.prog 40 #[.pointer (some ⟨g, 0, none⟩), .int .i64 i] w fun e w' => ∃ (Y : RM) (t : RSt) (p : Option Addr) (c : Nat) , Y.b = g ∧ Y.ok t ∧ s.le t ∧ Y.A = A' ∧ e = .returned (.tuple #[.slice p R.length c, .int .i64 k]) ∧ S w' ([Rw 3 1 p R.length c (fl intL R), Y.I, stI t] ++ [Old w (fps [X.I, stI s])]) := by
  subst hg; subst hA; subst hk; subst hR; subst hA'
  have hf : fps (X.L ++ stL s) = fps [X.I, stI s] := fps_two.symm
  refine (rfail_s (hR := hX) hi w (X.open s HS)).mono ?_
  rintro e w' ⟨nw', od', bn', sc', rs', ts', p, c, hR', hle, hA', rfl, h⟩
  rw [← hf]
  exact ⟨⟨X.b, X.m1, X.m2, X.m3, X.m4, nw', od', bn', sc'⟩, ⟨rs', ts'⟩, p, c, rfl, hR', hle, hA', rfl, RM.shut1 ⟨X.b, X.m1, X.m2, X.m3, X.m4, nw', od', bn', sc'⟩ ⟨rs', ts'⟩ h⟩
theorem rgood_q (hX : X.ok s) (hg : X.b = g) (hA : X.A = A) {i : Int} (hi : okI i) (hk : endE A i = k) (hR : goodR A i = R) (hA' : goodA A i = A') (w : World) (HS : S w [X.I, stI s]) : Calls Try.prog 42 #[.pointer (some ⟨g, 0, none⟩), .int .i64 i] w fun e w' => ∃ (Y : RM) (t : RSt) (p : Option Addr) (c : Nat) , Y.b = g ∧ Y.ok t ∧ s.le t ∧ Y.A = A' ∧ e = .returned (.tuple #[.slice p R.length c, .int .i64 k]) ∧ S w' ([Rw 3 1 p R.length c (fl intL R), Y.I, stI t] ++ [Old w (fps [X.I, stI s])]) := by
  subst hg; subst hA; subst hk; subst hR; subst hA'
  have hf : fps (X.L ++ stL s) = fps [X.I, stI s] := fps_two.symm
  refine (rgood_s (hR := hX) hi w (X.open s HS)).mono ?_
  rintro e w' ⟨nw', od', bn', sc', rs', ts', p, c, hR', hle, hA', rfl, h⟩
  rw [← hf]
  exact ⟨⟨X.b, X.m1, X.m2, X.m3, X.m4, nw', od', bn', sc'⟩, ⟨rs', ts'⟩, p, c, rfl, hR', hle, hA', rfl, RM.shut1 ⟨X.b, X.m1, X.m2, X.m3, X.m4, nw', od', bn', sc'⟩ ⟨rs', ts'⟩ h⟩
theorem rbanned_q (hX : X.ok s) (hg : X.b = g) (hA : X.A = A) {p : Int} (hp : okI p) (hk : A.bn p = kb) (w : World) (HS : S w [X.I, stI s]) : Calls Try.prog 46 #[.pointer (some ⟨g, 0, none⟩), .int .i64 p] w fun e w' => e = .returned (.bool kb) ∧ S w' ([X.I, stI s] ++ [Old w (fps [X.I, stI s])]) := by
  subst hg; subst hA; subst hk
  have hf : fps (X.L ++ stL s) = fps [X.I, stI s] := fps_two.symm
  refine (rbanned_s (hR := hX) hp w (X.open s HS)).mono ?_
  rintro e w' ⟨rfl, h⟩
  rw [← hf]
  exact ⟨rfl, RM.shut X s (a := []) h⟩
theorem rscore_q (hX : X.ok s) (hg : X.b = g) (hA : X.A = A) {p : Int} (hp : okI p) (hk : A.sc p = k) (w : World) (HS : S w [X.I, stI s]) : Calls Try.prog 48 #[.pointer (some ⟨g, 0, none⟩), .int .i64 p] w fun e w' => e = .returned (.int .i64 k) ∧ S w' ([X.I, stI s] ++ [Old w (fps [X.I, stI s])]) := by
  subst hg; subst hA; subst hk
  have hf : fps (X.L ++ stL s) = fps [X.I, stI s] := fps_two.symm
  refine (rscore_s (hR := hX) hp w (X.open s HS)).mono ?_
  rintro e w' ⟨rfl, h⟩
  rw [← hf]
  exact ⟨rfl, RM.shut X s (a := []) h⟩
theorem rparole_q (hX : X.ok s) (hg : X.b = g) (hA : X.A = A) {p : Int} (hp : okI p) (hk : A.par p = kb) (w : World) (HS : S w [X.I, stI s]) : Calls Try.prog 47 #[.pointer (some ⟨g, 0, none⟩), .int .i64 p] w fun e w' => e = .returned (.bool kb) ∧ S w' ([X.I, stI s] ++ [Old w (fps [X.I, stI s])]) := by
  subst hg; subst hA; subst hk
  have hf : fps (X.L ++ stL s) = fps [X.I, stI s] := fps_two.symm
  refine (rparole_s (hR := hX) hp w (X.open s HS)).mono ?_
  rintro e w' ⟨rfl, h⟩
  rw [← hf]
  exact ⟨rfl, RM.shut X s (a := []) h⟩
theorem rtries_q (hX : X.ok s) (hg : X.b = g) (hA : X.A = A) {i : Int} {n : Nat} (hi : okI i) (hk : (A.od i).length = n) (w : World) (HS : S w [X.I, stI s]) : Calls Try.prog 51 #[.pointer (some ⟨g, 0, none⟩), .int .i64 i] w fun e w' => e = .returned (.int .i64 (n : Int)) ∧ S w' ([X.I, stI s] ++ [Old w (fps [X.I, stI s])]) := by
  subst hg; subst hA; subst hk
  have hf : fps (X.L ++ stL s) = fps [X.I, stI s] := fps_two.symm
  refine (rtries_s (hR := hX) hi w (X.open s HS)).mono ?_
  rintro e w' ⟨rfl, h⟩
  rw [← hf]
  exact ⟨rfl, RM.shut X s (a := []) h⟩
theorem rmay_q (hX : X.ok s) (hg : X.b = g) (hA : X.A = A) {p i : Int} (hp : okI p) (hi : okI i) (hk : A.may p i = kb) (w : World) (HS : S w [X.I, stI s]) : Calls Try.prog 49 #[.pointer (some ⟨g, 0, none⟩), .int .i64 p, .int .i64 i] w fun e w' => e = .returned (.bool kb) ∧ S w' ([X.I, stI s] ++ [Old w (fps [X.I, stI s])]) := by
  subst hg; subst hA; subst hk
  have hf : fps (X.L ++ stL s) = fps [X.I, stI s] := fps_two.symm
  refine (rmay_s (hR := hX) hp hi w (X.open s HS)).mono ?_
  rintro e w' ⟨rfl, h⟩
  rw [← hf]
  exact ⟨rfl, RM.shut X s (a := []) h⟩
theorem rsenders_q (hX : X.ok s) (hg : X.b = g) (hA : X.A = A) {i : Int} (hi : okI i) (hk : whoL (A.nw i) = R) (w : World) (HS : S w [X.I, stI s]) : Calls Try.prog 50 #[.pointer (some ⟨g, 0, none⟩), .int .i64 i] w fun e w' => ∃ (p : Option Addr) (c : Nat), e = .returned (.slice p R.length c) ∧ S w' ([Rw 3 1 p R.length c (fl intL R), X.I, stI s] ++ [Old w (fps [X.I, stI s])]) := by
  subst hg; subst hA; subst hk
  have hf : fps (X.L ++ stL s) = fps [X.I, stI s] := fps_two.symm
  refine (rsenders_s (hR := hX) hi w (X.open s HS)).mono ?_
  rintro e w' ⟨p, c, rfl, h⟩
  rw [← hf]
  exact ⟨p, c, rfl, RM.shut1 X s h⟩
theorem rbans_q (hX : X.ok s) (hg : X.b = g) (hA : X.A = A)   (hk : bansL A = R) (w : World) (HS : S w [X.I, stI s]) : Calls Try.prog 52 #[.pointer (some ⟨g, 0, none⟩)] w fun e w' => ∃ (p : Option Addr) (c : Nat), e = .returned (.slice p R.length c) ∧ S w' ([Rw 3 1 p R.length c (fl intL R), X.I, stI s] ++ [Old w (fps [X.I, stI s])]) := by
  subst hg; subst hA; subst hk
  have hf : fps (X.L ++ stL s) = fps [X.I, stI s] := fps_two.symm
  refine (rbans_s (hR := hX)  w (X.open s HS)).mono ?_
  rintro e w' ⟨p, c, rfl, h⟩
  rw [← hf]
  exact ⟨p, c, rfl, RM.shut1 X s h⟩
end
theorem bans_g {X : BM} {A : BS} {g : Nat} {R : List Int} (hX : X.ok) (hg : X.b = g) (hA : X.A = A) (hk : bansL A = R) (w : World) (HS : S w [X.I]) : Calls Try.prog 24 #[.pointer (some ⟨g, 0, none⟩)] w fun e w' => ∃ p c, e = .returned (.slice p R.length c) ∧ S w' ([Rw 3 1 p R.length c (zV R), X.I] ++ [Old w (fps [X.I])]) := by
  subst hg; subst hA; subst hk
  have H := X.open HS
  refine (bans_s (A := X.A) hX.2 (fun _ => rfl) w (H.takes [0, 2] (by decide))).mono ?_
  rintro e w' ⟨p, c, rfl, h⟩
  have h2 := H.absorbI (new := [_, _, _]) [0, 2] h
  exact ⟨p, c, rfl, (S.big (L := X.L) (B := [_, _]) (h2.takes [1, 3, 2, 4, 5, 6, 7, 0, 8] (by decide))).takes [1, 0, 2] (by decide)⟩
end Go.Proofs.Ytlikhpfdncidkaa
