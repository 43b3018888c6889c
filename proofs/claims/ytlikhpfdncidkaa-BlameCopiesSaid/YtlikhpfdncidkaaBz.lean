import Derived.Test.YtlikhpfdncidkaaBy
set_option linter.unusedSimpArgs false
set_option linter.unusedVariables false
namespace Go.Proofs.Ytlikhpfdncidkaa
open Go.RowKit

/-! ## What is called, as the laws' walks take it; the page's example -/
section
variable {X : BM} {A A' : BS} {g : Nat} {k : Int} {kb : Bool} {R : List Int}
theorem banned_g (hX : X.ok) (hg : X.b = g) (hA : X.A = A) {p : Int} (hp : okI p) (hk : A.bn p = kb) (w : World) (HS : S w [X.I]) : Calls Try.prog 10 #[.pointer (some ⟨g, 0, none⟩), .int .i64 p] w fun e w' => e = .returned (.bool kb) ∧ S w' ([X.I] ++ [Old w (fps [X.I])]) := by
  subst hg; subst hA; subst hk; exact banned_x hX hp w HS
theorem score_g (hX : X.ok) (hg : X.b = g) (hA : X.A = A) {p : Int} (hp : okI p) (hk : A.sc p = k) (w : World) (HS : S w [X.I]) : Calls Try.prog 27 #[.pointer (some ⟨g, 0, none⟩), .int .i64 p] w fun e w' => e = .returned (.int .i64 k) ∧ S w' ([X.I] ++ [Old w (fps [X.I])]) := by
  subst hg; subst hA; subst hk; exact score_x hX hp w HS
theorem tries_g {n : Nat} (hX : X.ok) (hg : X.b = g) (hA : X.A = A) {p : Int} (hp : okI p) (hk : (A.od p).length = n) (w : World) (HS : S w [X.I]) : Calls Try.prog 28 #[.pointer (some ⟨g, 0, none⟩), .int .i64 p] w fun e w' => e = .returned (.int .i64 (n : Int)) ∧ S w' ([X.I] ++ [Old w (fps [X.I])]) := by
  subst hg; subst hA; subst hk; exact tries_x hX hp w HS
theorem parole_g (hX : X.ok) (hg : X.b = g) (hA : X.A = A) {p : Int} (hp : okI p) (hk : A.par p = kb) (w : World) (HS : S w [X.I]) : Calls Try.prog 11 #[.pointer (some ⟨g, 0, none⟩), .int .i64 p] w fun e w' => e = .returned (.bool kb) ∧ S w' ([X.I] ++ [Old w (fps [X.I])]) := by
  subst hg; subst hA; subst hk; exact parole_x hX hp w HS
theorem may_g (hX : X.ok) (hg : X.b = g) (hA : X.A = A) {p i : Int} (hp : okI p) (hi : okI i) (hk : A.may p i = kb) (w : World) (HS : S w [X.I]) : Calls Try.prog 17 #[.pointer (some ⟨g, 0, none⟩), .int .i64 p, .int .i64 i] w fun e w' => e = .returned (.bool kb) ∧ S w' ([X.I] ++ [Old w (fps [X.I])]) := by
  subst hg; subst hA; subst hk; exact may_x hX hp hi w HS
theorem senders_g (hX : X.ok) (hg : X.b = g) (hA : X.A = A) {i : Int} (hi : okI i) (hk : whoL (A.nw i) = R) (w : World) (HS : S w [X.I]) : Calls Try.prog 15 #[.pointer (some ⟨g, 0, none⟩), .int .i64 i] w fun e w' => ∃ p c, e = .returned (.slice p R.length c) ∧ S w' ([Rw 3 1 p R.length c (zV R), X.I] ++ [Old w (fps [X.I])]) := by
  subst hg; subst hA; subst hk; exact senders_x hX hi w HS
theorem fail_g (hX : X.ok) (hg : X.b = g) (hA : X.A = A) {i : Int} (hi : okI i) (hk : endE A i = k) (hR : failR A i = R) (hA' : failA A i = A') (w : World) (HS : S w [X.I]) : Calls Try.prog 16 #[.pointer (some ⟨g, 0, none⟩), .int .i64 i] w fun e w' => ∃ (Y : BM) (p : Option Addr) (c : Nat), Y.b = g ∧ Y.ok ∧ Y.A = A' ∧ e = .returned (.tuple #[.slice p R.length c, .int .i64 k]) ∧ S w' ([Rw 3 1 p R.length c (zV R), Y.I] ++ [Old w (fps [X.I])]) := by
  subst hg; subst hA; subst hk; subst hR; subst hA'; exact fail_x hX hi w HS
theorem good_g (hX : X.ok) (hg : X.b = g) (hA : X.A = A) {i : Int} (hi : okI i) (hk : endE A i = k) (hR : goodR A i = R) (hA' : goodA A i = A') (w : World) (HS : S w [X.I]) : Calls Try.prog 25 #[.pointer (some ⟨g, 0, none⟩), .int .i64 i] w fun e w' => ∃ (Y : BM) (p : Option Addr) (c : Nat), Y.b = g ∧ Y.ok ∧ Y.A = A' ∧ e = .returned (.tuple #[.slice p R.length c, .int .i64 k]) ∧ S w' ([Rw 3 1 p R.length c (zV R), Y.I] ++ [Old w (fps [X.I])]) := by
  subst hg; subst hA; subst hk; subst hR; subst hA'; exact good_x hX hi w HS
theorem drop_g (hX : X.ok) (hg : X.b = g) (hA : X.A = A) {i : Int} (hi : okI i) (hk : endE A i = k) (hA' : dropA A i = A') (w : World) (HS : S w [X.I]) : Calls Try.prog 26 #[.pointer (some ⟨g, 0, none⟩), .int .i64 i] w fun e w' => ∃ (Y : BM), Y.b = g ∧ Y.ok ∧ Y.A = A' ∧ e = .returned (.int .i64 k) ∧ S w' ([Y.I] ++ [Old w (fps [X.I])]) := by
  subst hg; subst hA; subst hk; subst hA'; exact drop_x hX hi w HS
theorem sent_g (hX : X.ok) (hg : X.b = g) (hA : X.A = A) {p i bg ln : Int} {data : ByteArray} (hp : okI p) (hi : okI i) (hk : sentE A p i bg ln data = k) (hA' : sentA A p i bg ln data = A') (w : World) (HS : S w [X.I]) : Calls Try.prog 13 #[.pointer (some ⟨g, 0, none⟩), .int .i64 p, .agg #[.int .i64 i, .int .i64 bg, .int .i64 ln], .string data] w fun e w' => ∃ (Y : BM), Y.b = g ∧ Y.ok ∧ Y.A = A' ∧ e = .returned (.int .i64 k) ∧ S w' ([Y.I] ++ [Old w (fps [X.I])]) := by
  subst hg; subst hA; subst hk; subst hA'; exact sent_x hX hp hi w HS
theorem proved_g (hX : X.ok) (hg : X.b = g) (hA : X.A = A) {p i bg ln : Int} {gd : Bool} (hp : okI p) (hi : okI i) (hk : provE A p i bg ln = k) (hR : provR A p i bg ln gd = kb) (hA' : provA A p i bg ln gd = A') (w : World) (HS : S w [X.I]) : Calls Try.prog 14 #[.pointer (some ⟨g, 0, none⟩), .int .i64 p, .agg #[.int .i64 i, .int .i64 bg, .int .i64 ln], .bool gd] w fun e w' => ∃ (Y : BM), Y.b = g ∧ Y.ok ∧ Y.A = A' ∧ e = .returned (.tuple #[.bool kb, .int .i64 k]) ∧ S w' ([Y.I] ++ [Old w (fps [X.I])]) := by
  subst hg; subst hA; subst hk; subst hR; subst hA'; exact proved_x hX hp hi w HS
end
/-! the page's example -/
theorem ok_small {x : Int} (h : 0 ≤ x ∧ x ≤ 1048576) : okI x := ⟨by omega, by omega⟩
theorem sentE_ok {A : BS} {p i bg ln : Int} {data : ByteArray} (h1 : (peerB p && blockB i bg ln) = true) (h2 : (data.size : Int) = ln) (h3 : A.bn p = false) (h4 : ∀ s v, A.nw i s = some v → ¬ s.1 = bg) : sentE A p i bg ln data = 0 := by
  unfold sentE
  rw [if_neg (by rw [h1]; decide), if_neg (by rw [h2]; simp), if_neg (by rw [h3]; decide), if_neg (fun ⟨s, v, a, b⟩ => h4 s v a b)]
theorem endE_ok {A : BS} {i : Int} (h1 : pieceB i = true) {s : Sp} {v : Sn} (h2 : A.nw i s = some v) : endE A i = 0 := by
  unfold endE
  rw [if_neg (by rw [h1]; decide), if_neg (fun h => by rw [h s] at h2; cases h2)]
def baA : ByteArray := ⟨#[97]⟩
def baB : ByteArray := ⟨#[98]⟩
def baC : ByteArray := ⟨#[99]⟩
set_option maxRecDepth 100000 in
theorem sum_bc : ¬ sumS baC = sumS baB := by decide +kernel
end Go.Proofs.Ytlikhpfdncidkaa
