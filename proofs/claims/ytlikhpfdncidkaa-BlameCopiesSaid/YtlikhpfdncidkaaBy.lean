import Derived.Test.YtlikhpfdncidkaaBx
set_option linter.unusedSimpArgs false
set_option linter.unusedVariables false
namespace Go.Proofs.Ytlikhpfdncidkaa
open Go.RowKit

/-! ## A blame in plain words: what is known, whatever the memory -/
@[ext] structure BS where
  sc : Int → Int
  bn : Int → Bool
  nw : Int → Tr
  od : Int → List Tr
def BS.none : BS := ⟨fun _ => 0, fun _ => false, fun _ => noT, fun _ => []⟩
open Classical in
noncomputable def sentE (A : BS) (p i bg ln : Int) (data : ByteArray) : Int :=
  if (peerB p && blockB i bg ln) = false then 7 else if ¬ (data.size : Int) = ln then 11 else if A.bn p = true then 20 else if ∃ s v, A.nw i s = some v ∧ s.1 = bg then 6 else 0
noncomputable def sentA (A : BS) (p i bg ln : Int) (data : ByteArray) : BS :=
  if sentE A p i bg ln data = 0 then { A with nw := fun j => if j = i then upM (A.nw i) (bg, ln) (p, sumS data) else A.nw j } else A
open Classical in
noncomputable def endE (A : BS) (i : Int) : Int := if pieceB i = false then 7 else if ∀ s, A.nw i s = Option.none then 8 else 0
def banL (A : BS) (l : List Int) : List Int := (ascI l).filter fun p => !(A.bn p)
def banM (A : BS) (l : List Int) : Int → Bool := fun y => A.bn y || decide (y ∈ l)
noncomputable def failR (A : BS) (i : Int) : List Int := if endE A i = 0 then banL A (failL (A.nw i)) else []
noncomputable def failA (A : BS) (i : Int) : BS :=
  if endE A i = 0 then ⟨fun y => if y ∈ whoL (A.nw i) then IntKind.i64.wrap (A.sc y + 1) else A.sc y, banM A (failL (A.nw i)), fun j => if j = i then noT else A.nw j, fun j => if j = i then lastTen (A.od i ++ [A.nw i]) else A.od j⟩ else A
noncomputable def goodR (A : BS) (i : Int) : List Int := if endE A i = 0 then banL A (outL (A.nw i) (A.od i)) else []
noncomputable def goodA (A : BS) (i : Int) : BS :=
  if endE A i = 0 then ⟨fun y => scJ (A.nw i) (A.od i) (A.sc y) y, banM A (outL (A.nw i) (A.od i)), fun j => if j = i then noT else A.nw j, fun j => if j = i then [] else A.od j⟩ else A
open Classical in
noncomputable def provE (A : BS) (p i bg ln : Int) : Int := if (peerB p && blockB i bg ln) = false then 7 else if ∃ d, A.nw i (bg, ln) = some (p, d) then 0 else 8
noncomputable def provR (A : BS) (p i bg ln : Int) (gd : Bool) : Bool := if provE A p i bg ln = 0 ∧ gd = false then !(A.bn p) else false
noncomputable def provA (A : BS) (p i bg ln : Int) (gd : Bool) : BS :=
  if provE A p i bg ln = 0 ∧ gd = false then { A with bn := banM A [p], nw := fun j => if j = i then delM (A.nw i) (bg, ln) else A.nw j } else A
noncomputable def dropA (A : BS) (i : Int) : BS := if endE A i = 0 then { A with nw := fun j => if j = i then noT else A.nw j } else A
def BS.onOld (A : BS) (p : Int) : Prop := ∃ i, okI i ∧ ∃ t ∈ A.od i, p ∈ whoL t
noncomputable def BS.par (A : BS) (p : Int) : Bool := !(A.bn p) && (open Classical in decide (A.onOld p))
noncomputable def BS.may (A : BS) (p i : Int) : Bool := peerB p && pieceB i && !(A.bn p) && (whoL (A.nw i)).all fun x => decide (x = p) || !(A.par p || A.par x)
/-! the program's memory of it -/
structure BM where
  b : Nat
  m1 : Nat
  m2 : Nat
  m3 : Nat
  m4 : Nat
  sc : Int → Option Int
  bn : Int → Option Bool
  nw : Int → Option Nat
  od : Int → Option (Ro Nat)
  rs : List (Ro Nat)
  ms : List Nat
  ct : Nat → Tr
def BM.L (X : BM) : List Item := [Ob X.b (.cells #[.map (some X.m1), .map (some X.m2), .map (some X.m3), .map (some X.m4)] 66 (0, 0)), Mp (Value.int .i64) (Value.int .i64) okI X.m1 X.sc, Mp (Value.int .i64) Value.bool okI X.m2 X.bn, Mp (Value.int .i64) mpV okI X.m3 X.nw, Mp (Value.int .i64) roV okI X.m4 X.od, FamM spK snV okP X.ms X.ct, RowsI 70 1 mpL X.rs]
def BM.I (X : BM) : Item := Big X.L
/-- Who is in the map of those that are banned is banned. -/
def BV (bn : Int → Option Bool) : Prop := ∀ y v, bn y = some v → v = true ∧ 1 ≤ y ∧ y ≤ 1000
theorem BV.to {bn bn' : Int → Option Bool} {l : List Int} (h : BV bn) (k : BanTo bn bn' l) (hl : ∀ y ∈ l, 1 ≤ y ∧ y ≤ 1000) : BV bn' := fun y v hy => by
  rcases k.inn y v hy with h1 | ⟨rfl, h1⟩
  · exact h y v h1
  · exact ⟨rfl, hl y h1⟩
def BM.ok (X : BM) : Prop := BI X.nw X.od X.rs X.ms X.ct ∧ BV X.bn
def BM.A (X : BM) : BS := ⟨fun x => (X.sc x).getD 0, fun x => (X.bn x).getD false, nwA X.nw X.ct, odA X.od X.ct⟩
theorem BM.open (X : BM) {w : World} (h : S w [X.I]) : S w (X.L ++ [Old w (fps [X.I])]) := by
  unfold BM.I
  rw [fps_big]
  have h2 : S w (X.L ++ []) := S.unbig h
  rw [List.append_nil] at h2
  exact h2.beginI
theorem par_eq {bn : Int → Option Bool} {nw : Int → Option Nat} {od : Int → Option (Ro Nat)} {ct : Nat → Tr} {sc : Int → Int} {p : Int} : parB bn od ct p = (⟨sc, fun x => (bn x).getD false, nwA nw ct, odA od ct⟩ : BS).par p := by
  have : onOld od ct p ↔ (⟨sc, fun x => (bn x).getD false, nwA nw ct, odA od ct⟩ : BS).onOld p := by
    unfold onOld BS.onOld odA
    simp only [List.mem_map]
    exact ⟨fun ⟨i, h1, m, h2, h3⟩ => ⟨i, h1, ct m, ⟨m, h2, rfl⟩, h3⟩, fun ⟨i, h1, t, ⟨m, h2, h4⟩, h3⟩ => ⟨i, h1, m, h2, by rw [h4]; exact h3⟩⟩
  unfold parB BS.par
  exact congrArg (fun z => !((bn p).getD false) && z) (decide_eq_decide.2 this)
theorem may_eq {bn : Int → Option Bool} {nw : Int → Option Nat} {od : Int → Option (Ro Nat)} {ct : Nat → Tr} {sc : Int → Int} {p i : Int} : mayB bn nw od ct p i = (⟨sc, fun x => (bn x).getD false, nwA nw ct, odA od ct⟩ : BS).may p i := by
  unfold mayB BS.may
  simp only [par_eq (sc := sc) (nw := nw)]
  rfl
variable {X : BM} {w : World}
theorem new_x (w : World) : Calls Try.prog 12 #[] w fun e w' => ∃ Y : BM, Y.ok ∧ Y.A = BS.none ∧ e = .returned (.pointer (some ⟨Y.b, 0, none⟩)) ∧ S w' ([Y.I] ++ [Old w no]) := by
  refine (new_s w).mono ?_
  rintro e w' ⟨b, m1, m2, m3, m4, rfl, H⟩
  refine ⟨⟨b, m1, m2, m3, m4, fun _ => none, fun _ => none, fun _ => none, fun _ => none, [], [], fun _ => noT⟩, ⟨BI.nil, fun _ _ h => (by cases h)⟩, rfl, rfl, S.big (B := [_]) H⟩
theorem banned_x (hX : X.ok) {p : Int} (hp : okI p) (w : World) (HS : S w [X.I]) : Calls Try.prog 10 #[.pointer (some ⟨X.b, 0, none⟩), .int .i64 p] w fun e w' => e = .returned (.bool (X.A.bn p)) ∧ S w' ([X.I] ++ [Old w (fps [X.I])]) := by
  have H := X.open HS
  refine (banned_s hp w (H.takes [0, 2] (by decide))).mono ?_
  rintro e w' ⟨rfl, h⟩
  have h2 := H.absorbI (new := [_, _]) [0, 2] h
  exact ⟨rfl, S.big (B := [_]) (h2.takes [0, 2, 1, 3, 4, 5, 6, 7] (by decide))⟩
theorem score_x (hX : X.ok) {p : Int} (hp : okI p) (w : World) (HS : S w [X.I]) : Calls Try.prog 27 #[.pointer (some ⟨X.b, 0, none⟩), .int .i64 p] w fun e w' => e = .returned (.int .i64 (X.A.sc p)) ∧ S w' ([X.I] ++ [Old w (fps [X.I])]) := by
  have H := X.open HS
  refine (score_s hp w (H.takes [0, 1] (by decide))).mono ?_
  rintro e w' ⟨rfl, h⟩
  have h2 := H.absorbI (new := [_, _]) [0, 1] h
  exact ⟨rfl, S.big (B := [_]) (h2.takes [0, 1, 2, 3, 4, 5, 6, 7] (by decide))⟩
theorem tries_x (hX : X.ok) {i : Int} (hi : okI i) (w : World) (HS : S w [X.I]) : Calls Try.prog 28 #[.pointer (some ⟨X.b, 0, none⟩), .int .i64 i] w fun e w' => e = .returned (.int .i64 ((X.A.od i).length : Int)) ∧ S w' ([X.I] ++ [Old w (fps [X.I])]) := by
  have H := X.open HS
  refine (tries_s hX.1 hi w (H.takes [0, 4, 6] (by decide))).mono ?_
  rintro e w' ⟨rfl, h⟩
  have h2 := H.absorbI (new := [_, _, _]) [0, 4, 6] h
  exact ⟨by unfold BM.A odA; rw [List.length_map], S.big (B := [_]) (h2.takes [0, 3, 4, 5, 1, 6, 2, 7] (by decide))⟩
theorem parole_x (hX : X.ok) {p : Int} (hp : okI p) (w : World) (HS : S w [X.I]) : Calls Try.prog 11 #[.pointer (some ⟨X.b, 0, none⟩), .int .i64 p] w fun e w' => e = .returned (.bool (X.A.par p)) ∧ S w' ([X.I] ++ [Old w (fps [X.I])]) := by
  have H := X.open HS
  refine (parole_s hX.1 hp w (H.takes [0, 2, 4, 5, 6] (by decide))).mono ?_
  rintro e w' ⟨rfl, h⟩
  have h2 := H.absorbI (new := [_, _, _, _, _]) [0, 2, 4, 5, 6] h
  exact ⟨by rw [par_eq]; rfl, S.big (B := [_]) (h2.takes [0, 5, 1, 6, 2, 3, 4, 7] (by decide))⟩
theorem may_x (hX : X.ok) {p i : Int} (hp : okI p) (hi : okI i) (w : World) (HS : S w [X.I]) : Calls Try.prog 17 #[.pointer (some ⟨X.b, 0, none⟩), .int .i64 p, .int .i64 i] w fun e w' => e = .returned (.bool (X.A.may p i)) ∧ S w' ([X.I] ++ [Old w (fps [X.I])]) := by
  have H := X.open HS
  refine (may_s hX.1 hp hi w (H.takes [0, 2, 3, 4, 5, 6] (by decide))).mono ?_
  rintro e w' ⟨rfl, h⟩
  have h2 := H.absorbI (new := [_, _, _, _, _, _]) [0, 2, 3, 4, 5, 6] h
  exact ⟨by rw [may_eq]; rfl, S.big (B := [_]) (h2.takes [0, 6, 1, 2, 3, 4, 5, 7] (by decide))⟩
theorem senders_x (hX : X.ok) {i : Int} (hi : okI i) (w : World) (HS : S w [X.I]) : Calls Try.prog 15 #[.pointer (some ⟨X.b, 0, none⟩), .int .i64 i] w fun e w' => ∃ p c, e = .returned (.slice p (whoL (X.A.nw i)).length c) ∧ S w' ([Rw 3 1 p (whoL (X.A.nw i)).length c (zV (whoL (X.A.nw i))), X.I] ++ [Old w (fps [X.I])]) := by
  have H := X.open HS
  refine (senders_s hX.1 hi w (H.takes [0, 3, 5] (by decide))).mono ?_
  rintro e w' ⟨p, c, rfl, h⟩
  have h2 := H.absorbI (new := [_, _, _, _]) [0, 3, 5] h
  exact ⟨p, c, rfl, (S.big (B := [_, _]) (h2.takes [1, 4, 5, 2, 6, 3, 7, 0, 8] (by decide))).takes [1, 0, 2] (by decide)⟩
theorem fail_x (hX : X.ok) {i : Int} (hi : okI i) (w : World) (HS : S w [X.I]) : Calls Try.prog 16 #[.pointer (some ⟨X.b, 0, none⟩), .int .i64 i] w fun e w' => ∃ (Y : BM) (p : Option Addr) (c : Nat), Y.b = X.b ∧ Y.ok ∧ Y.A = failA X.A i ∧ e = .returned (.tuple #[.slice p (failR X.A i).length c, .int .i64 (endE X.A i)]) ∧ S w' ([Rw 3 1 p (failR X.A i).length c (zV (failR X.A i)), Y.I] ++ [Old w (fps [X.I])]) := by
  have hf : fps X.L = fps [X.I] := (fps_big (L := X.L)).symm
  have h0 : S w (X.L ++ []) := S.unbig HS
  rw [List.append_nil] at h0
  refine (fail_s (od := X.od) hX.1 hi w h0).mono ?_
  rintro e w' (⟨hp, rfl, h⟩ | ⟨hp, hem, rfl, h⟩ | ⟨hp, m, sc', bn', r', p2, c2, hn, hex, hsc, hbn, hrl, rfl, h⟩)
  · have hE : endE X.A i = 7 := if_pos hp
    have hR : failR X.A i = [] := if_neg (by rw [hE]; decide)
    have hA : failA X.A i = X.A := if_neg (by rw [hE]; decide)
    rw [hE, hR, hA]
    have h2 := (S.big (L := X.L) (B := [_]) h).nilRw 3 1
    exact ⟨X, none, 0, rfl, hX, rfl, rfl, by rw [← hf]; exact h2⟩
  · have hE : endE X.A i = 8 := by unfold endE; rw [if_neg (by rw [hp]; decide)]; exact if_pos hem
    have hR : failR X.A i = [] := if_neg (by rw [hE]; decide)
    have hA : failA X.A i = X.A := if_neg (by rw [hE]; decide)
    rw [hE, hR, hA]
    have h2 := (S.big (L := X.L) (B := [_]) h).nilRw 3 1
    exact ⟨X, none, 0, rfl, hX, rfl, rfl, by rw [← hf]; exact h2⟩
  · have hnA : X.A.nw i = X.ct m := nwA_some hn
    have hE : endE X.A i = 0 := by
      unfold endE
      rw [if_neg (by rw [hp]; decide), if_neg (fun hc => by obtain ⟨s, hs⟩ := hex; exact hs (by rw [← hnA]; exact hc s))]
    have hR : failR X.A i = newL X.bn (failL (X.ct m)) := by unfold failR; rw [if_pos hE, hnA]; rfl
    have hA : failA X.A i = _ := if_pos hE
    rw [hE, hR, hA]
    refine ⟨⟨X.b, X.m1, X.m2, X.m3, X.m4, sc', bn', delM X.nw i, upM X.od i r', X.rs ++ [r'], X.ms, X.ct⟩, p2, c2, rfl, ⟨BI.fail hX.1 hn hrl, hX.2.to hbn fun y hy => failL_in (hX.1.tok m (hX.1.nwm i m hn)) hy⟩, ?_, rfl, ?_⟩
    · refine BS.ext (funext fun y => ?_) (funext fun y => ?_) (funext fun y => ?_) (funext fun y => ?_)
      · show (sc' y).getD 0 = _
        rw [hsc, hnA]; rfl
      · show (bn' y).getD false = _
        rw [hbn.get, hnA]; rfl
      · exact nwA_del y
      · show odA (upM X.od i r') X.ct y = _
        rw [odA_up, hrl]
        show (if y = i then _ else _) = if y = i then lastTen (odA X.od X.ct i ++ [X.A.nw i]) else _
        rw [hnA]
        unfold odA
        rw [← lastTen_map, List.map_append]; rfl
    · rw [← hf]
      exact (S.big (B := [_, _]) (h.takes [1, 2, 3, 4, 5, 6, 7, 0, 8] (by decide))).takes [1, 0, 2] (by decide)
theorem good_x (hX : X.ok) {i : Int} (hi : okI i) (w : World) (HS : S w [X.I]) : Calls Try.prog 25 #[.pointer (some ⟨X.b, 0, none⟩), .int .i64 i] w fun e w' => ∃ (Y : BM) (p : Option Addr) (c : Nat), Y.b = X.b ∧ Y.ok ∧ Y.A = goodA X.A i ∧ e = .returned (.tuple #[.slice p (goodR X.A i).length c, .int .i64 (endE X.A i)]) ∧ S w' ([Rw 3 1 p (goodR X.A i).length c (zV (goodR X.A i)), Y.I] ++ [Old w (fps [X.I])]) := by
  have hf : fps X.L = fps [X.I] := (fps_big (L := X.L)).symm
  have h0 : S w (X.L ++ []) := S.unbig HS
  rw [List.append_nil] at h0
  refine (good_s (od := X.od) hX.1 hi w h0).mono ?_
  rintro e w' (⟨hp, rfl, h⟩ | ⟨hp, hem, rfl, h⟩ | ⟨hp, m, sc', bn', p2, c2, hn, hex, hsc, hbn, rfl, h⟩)
  · have hE : endE X.A i = 7 := if_pos hp
    have hR : goodR X.A i = [] := if_neg (by rw [hE]; decide)
    have hA : goodA X.A i = X.A := if_neg (by rw [hE]; decide)
    rw [hE, hR, hA]
    have h2 := (S.big (L := X.L) (B := [_]) h).nilRw 3 1
    exact ⟨X, none, 0, rfl, hX, rfl, rfl, by rw [← hf]; exact h2⟩
  · have hE : endE X.A i = 8 := by unfold endE; rw [if_neg (by rw [hp]; decide)]; exact if_pos hem
    have hR : goodR X.A i = [] := if_neg (by rw [hE]; decide)
    have hA : goodA X.A i = X.A := if_neg (by rw [hE]; decide)
    rw [hE, hR, hA]
    have h2 := (S.big (L := X.L) (B := [_]) h).nilRw 3 1
    exact ⟨X, none, 0, rfl, hX, rfl, rfl, by rw [← hf]; exact h2⟩
  · have hnA : X.A.nw i = X.ct m := nwA_some hn
    have hE : endE X.A i = 0 := by
      unfold endE
      rw [if_neg (by rw [hp]; decide), if_neg (fun hc => by obtain ⟨s, hs⟩ := hex; exact hs (by rw [← hnA]; exact hc s))]
    have hR : goodR X.A i = newL X.bn (outL (X.ct m) (odA X.od X.ct i)) := by unfold goodR; rw [if_pos hE, hnA]; rfl
    have hA : goodA X.A i = _ := if_pos hE
    rw [hE, hR, hA]
    refine ⟨⟨X.b, X.m1, X.m2, X.m3, X.m4, sc', bn', delM X.nw i, delM X.od i, X.rs, X.ms, X.ct⟩, p2, c2, rfl, ⟨BI.good hX.1 i, hX.2.to hbn fun y hy => outL_in (fun t ht => by obtain ⟨x, hx, rfl⟩ := List.mem_map.1 ht; exact hX.1.tok x (hX.1.odIn hx)) hy⟩, ?_, rfl, ?_⟩
    · refine BS.ext (funext fun y => ?_) (funext fun y => ?_) (funext fun y => ?_) (funext fun y => ?_)
      · show (sc' y).getD 0 = _
        rw [hsc, hnA]; rfl
      · show (bn' y).getD false = _
        rw [hbn.get, hnA]; rfl
      · exact nwA_del y
      · exact odA_del y
    · rw [← hf]
      exact (S.big (B := [_, _]) (h.takes [1, 2, 3, 4, 5, 6, 7, 0, 8] (by decide))).takes [1, 0, 2] (by decide)
theorem drop_x (hX : X.ok) {i : Int} (hi : okI i) (w : World) (HS : S w [X.I]) : Calls Try.prog 26 #[.pointer (some ⟨X.b, 0, none⟩), .int .i64 i] w fun e w' => ∃ (Y : BM), Y.b = X.b ∧ Y.ok ∧ Y.A = dropA X.A i ∧ e = .returned (.int .i64 (endE X.A i)) ∧ S w' ([Y.I] ++ [Old w (fps [X.I])]) := by
  have H := X.open HS
  refine (drop_s (od := X.od) hX.1 hi w (H.takes [0, 3, 5] (by decide))).mono ?_
  rintro e w' (⟨hp, rfl, h⟩ | ⟨hp, hem, rfl, h⟩ | ⟨hp, hex, rfl, h⟩)
  · have hE : endE X.A i = 7 := if_pos hp
    have hA : dropA X.A i = X.A := if_neg (by rw [hE]; decide)
    rw [hE, hA]
    have h2 := H.absorbI (new := [_, _, _]) [0, 3, 5] h
    exact ⟨X, rfl, hX, rfl, rfl, S.big (B := [_]) (h2.takes [0, 3, 4, 1, 5, 2, 6, 7] (by decide))⟩
  · have hE : endE X.A i = 8 := by unfold endE; rw [if_neg (by rw [hp]; decide)]; exact if_pos hem
    have hA : dropA X.A i = X.A := if_neg (by rw [hE]; decide)
    rw [hE, hA]
    have h2 := H.absorbI (new := [_, _, _]) [0, 3, 5] h
    exact ⟨X, rfl, hX, rfl, rfl, S.big (B := [_]) (h2.takes [0, 3, 4, 1, 5, 2, 6, 7] (by decide))⟩
  · have hE : endE X.A i = 0 := by
      unfold endE
      rw [if_neg (by rw [hp]; decide), if_neg (fun hc => by obtain ⟨s, hs⟩ := hex; exact hs (hc s))]
    have hA : dropA X.A i = _ := if_pos hE
    rw [hE, hA]
    have h2 := H.absorbI (new := [_, _, _]) [0, 3, 5] h
    exact ⟨⟨X.b, X.m1, X.m2, X.m3, X.m4, X.sc, X.bn, delM X.nw i, X.od, X.rs, X.ms, X.ct⟩, rfl, ⟨BI.drop hX.1 i, hX.2⟩, BS.ext rfl rfl (funext fun y => nwA_del y) rfl, rfl, S.big (B := [_]) (h2.takes [0, 3, 4, 1, 5, 2, 6, 7] (by decide))⟩
theorem sent_x (hX : X.ok) {p i bg ln : Int} {data : ByteArray} (hp : okI p) (hi : okI i) (w : World) (HS : S w [X.I]) : Calls Try.prog 13 #[.pointer (some ⟨X.b, 0, none⟩), .int .i64 p, .agg #[.int .i64 i, .int .i64 bg, .int .i64 ln], .string data] w fun e w' => ∃ (Y : BM), Y.b = X.b ∧ Y.ok ∧ Y.A = sentA X.A p i bg ln data ∧ e = .returned (.int .i64 (sentE X.A p i bg ln data)) ∧ S w' ([Y.I] ++ [Old w (fps [X.I])]) := by
  have H := X.open HS
  have same : ∀ {k : Int} {w' : World}, sentE X.A p i bg ln data = k → ¬ k = 0 → S w' ([_, _, _, _] ++ [Old w (fps (pks [0, 2, 3, 5] (X.L ++ [Old w (fps [X.I])])))]) → ∃ (Y : BM), Y.b = X.b ∧ Y.ok ∧ Y.A = sentA X.A p i bg ln data ∧ Ending.returned (.int .i64 k) = .returned (.int .i64 (sentE X.A p i bg ln data)) ∧ S w' ([Y.I] ++ [Old w (fps [X.I])]) := fun {k w'} hE hk h => by
    have hA : sentA X.A p i bg ln data = X.A := if_neg (by rw [hE]; exact hk)
    rw [hE, hA]
    have h2 := H.absorbI (new := pks [0, 2, 3, 5] (X.L ++ [Old w (fps [X.I])])) [0, 2, 3, 5] h
    exact ⟨X, rfl, hX, rfl, rfl, S.big (B := [_]) (h2.takes [0, 4, 1, 2, 5, 3, 6, 7] (by decide))⟩
  refine (sent_s (od := X.od) (bg := bg) (ln := ln) (data := data) hX.1 hp hi w (H.takes [0, 2, 3, 5] (by decide))).mono ?_
  rintro e w' (⟨h1, rfl, h⟩ | ⟨h1, h2, rfl, h⟩ | ⟨h1, h2, h3, rfl, h⟩ | ⟨h1, h2, h3, h4, rfl, h⟩ | ⟨h1, h2, h3, h4, nw', ms', ct', h5, rfl, h⟩)
  · exact same (if_pos h1) (by decide) h
  · refine same ?_ (by decide) h
    unfold sentE; rw [if_neg (by rw [h1]; decide), if_pos h2]
  · refine same ?_ (by decide) h
    unfold sentE; rw [if_neg (by rw [h1]; decide), if_neg (by rw [h2]; simp)]; exact if_pos h3
  · refine same ?_ (by decide) h
    unfold sentE; rw [if_neg (by rw [h1]; decide), if_neg (by rw [h2]; simp), if_neg (by show ¬ (X.bn p).getD false = true; rw [h3]; decide)]; exact if_pos h4
  · have hE : sentE X.A p i bg ln data = 0 := by
      unfold sentE; rw [if_neg (by rw [h1]; decide), if_neg (by rw [h2]; simp), if_neg (by show ¬ (X.bn p).getD false = true; rw [h3]; decide), if_neg (fun ⟨s, v, a, b⟩ => h4 s v a b)]
    have hA : sentA X.A p i bg ln data = _ := if_pos hE
    rw [hE, hA]
    have h9 := H.absorbI (new := [_, _, _, _]) [0, 2, 3, 5] h
    exact ⟨⟨X.b, X.m1, X.m2, X.m3, X.m4, X.sc, X.bn, nw', X.od, X.rs, ms', ct'⟩, rfl, ⟨h5.bi, hX.2⟩, BS.ext rfl rfl (funext fun y => h5.now y) h5.old, rfl, S.big (B := [_]) (h9.takes [0, 4, 1, 2, 5, 3, 6, 7] (by decide))⟩
theorem proved_x (hX : X.ok) {p i bg ln : Int} {gd : Bool} (hp : okI p) (hi : okI i) (w : World) (HS : S w [X.I]) : Calls Try.prog 14 #[.pointer (some ⟨X.b, 0, none⟩), .int .i64 p, .agg #[.int .i64 i, .int .i64 bg, .int .i64 ln], .bool gd] w fun e w' => ∃ (Y : BM), Y.b = X.b ∧ Y.ok ∧ Y.A = provA X.A p i bg ln gd ∧ e = .returned (.tuple #[.bool (provR X.A p i bg ln gd), .int .i64 (provE X.A p i bg ln)]) ∧ S w' ([Y.I] ++ [Old w (fps [X.I])]) := by
  have H := X.open HS
  have same : ∀ {k : Int} {w' : World}, provE X.A p i bg ln = k → ¬ (k = 0 ∧ gd = false) → S w' ([_, _, _, _] ++ [Old w (fps (pks [0, 2, 3, 5] (X.L ++ [Old w (fps [X.I])])))]) → ∃ (Y : BM), Y.b = X.b ∧ Y.ok ∧ Y.A = provA X.A p i bg ln gd ∧ Ending.returned (.tuple #[.bool false, .int .i64 k]) = .returned (.tuple #[.bool (provR X.A p i bg ln gd), .int .i64 (provE X.A p i bg ln)]) ∧ S w' ([Y.I] ++ [Old w (fps [X.I])]) := fun {k w'} hE hk h => by
    have hA : provA X.A p i bg ln gd = X.A := if_neg (by rw [hE]; exact hk)
    have hR : provR X.A p i bg ln gd = false := if_neg (by rw [hE]; exact hk)
    rw [hE, hA, hR]
    have h2 := H.absorbI (new := pks [0, 2, 3, 5] (X.L ++ [Old w (fps [X.I])])) [0, 2, 3, 5] h
    exact ⟨X, rfl, hX, rfl, rfl, S.big (B := [_]) (h2.takes [0, 4, 1, 2, 5, 3, 6, 7] (by decide))⟩
  refine (proved_s (od := X.od) (bg := bg) (ln := ln) (gd := gd) hX.1 hp hi w (H.takes [0, 2, 3, 5] (by decide))).mono ?_
  rintro e w' (⟨h1, rfl, h⟩ | ⟨h1, h2, rfl, h⟩ | ⟨h1, h2, h3, rfl, h⟩ | ⟨h1, h2, h3, m, bn', hn, hbn, rfl, h⟩)
  · exact same (if_pos h1) (by simp) h
  · refine same ?_ (by simp) h
    unfold provE; rw [if_neg (by rw [h1]; decide), if_neg (fun ⟨d, hd⟩ => h2 d hd)]
  · refine same ?_ (by rw [h3]; simp) h
    unfold provE; rw [if_neg (by rw [h1]; decide)]; exact if_pos h2
  · have hE : provE X.A p i bg ln = 0 := by unfold provE; rw [if_neg (by rw [h1]; decide)]; exact if_pos h2
    have hA : provA X.A p i bg ln gd = _ := if_pos ⟨hE, h3⟩
    have hR : provR X.A p i bg ln gd = !(X.A.bn p) := if_pos ⟨hE, h3⟩
    rw [hE, hA, hR]
    obtain ⟨t1, t2, t3⟩ := BI.take (od := X.od) (rs := X.rs) (ms := X.ms) (ct := X.ct) hX.1 hn (bg, ln)
    have h9 := H.absorbI (new := [_, _, _, _]) [0, 2, 3, 5] h
    exact ⟨⟨X.b, X.m1, X.m2, X.m3, X.m4, X.sc, bn', X.nw, X.od, X.rs, X.ms, _⟩, rfl, ⟨t1, hX.2.to hbn fun y hy => by rw [List.mem_singleton] at hy; subst hy; exact (blockB_true h1).1⟩, BS.ext rfl (funext fun y => hbn.get y) (funext fun y => t2 y) t3, rfl, S.big (B := [_]) (h9.takes [0, 4, 1, 2, 5, 3, 6, 7] (by decide))⟩
end Go.Proofs.Ytlikhpfdncidkaa
