import Derived.Test.YthfglkkjkpdkpaaDoorNj
set_option linter.unusedSimpArgs false
set_option linter.unusedVariables false
namespace Go.Proofs.YthfglkkjkpdkpaaDoor
open Go.RowKit

/-! ## Both Supers by what they hold -/
def PJ (j : Nat) (A : SP) : Prop := PI j A ∧ ∀ p ∈ A.ps, okI p.id
variable {A : SP} {j g : Nat} {id k : Int} {X : XM} {Z : RM}
theorem PJ.come (h : PJ j A) (hid : okI id) : PJ (j + 1) (comeA A id) := ⟨h.1.come id, fun p hp => by
  unfold comeA at hp
  split at hp
  · rcases List.mem_append.1 hp with hp | hp
    · exact h.2 p hp
    · rw [List.mem_singleton] at hp; subst hp; exact hid
  · exact h.2 p hp⟩
theorem PJ.go (h : PJ j A) : PJ (j + 1) (goA A id) := ⟨h.1.go id, fun p hp => by
  unfold goA at hp
  cases hf : fnd A.ps id with
  | none => rw [hf] at hp; exact h.2 p hp
  | some i => rw [hf] at hp; exact h.2 p (List.mem_of_mem_eraseIdx hp)⟩
theorem mem_put {ps : List Sh} {i : Nat} {r : Sh} (h : ∀ p ∈ ps, okI p.id) (hr : okI r.id) : ∀ p ∈ ps.set i r, okI p.id := fun p hp => by
  rcases List.mem_or_eq_of_mem_set hp with hp | rfl
  · exact h p hp
  · exact hr
theorem PJ.getP (h : PJ j A) {i : Nat} (hf : fnd A.ps id = some i) : okI (getP A i).id := by
  obtain ⟨p, hp, he⟩ := fnd_some hf
  rw [getP_at hp]; exact h.2 p (List.mem_of_getElem? hp)
theorem PJ.holds (h : PJ j A) : PJ (j + 1) (holdsA A id k) := ⟨h.1.holds id k, fun p hp => by
  unfold holdsA at hp
  split at hp
  · cases hf : fnd A.ps id with
    | none => rw [hf] at hp; exact h.2 p hp
    | some i => rw [hf] at hp; exact mem_put (r := { Go.Proofs.YthfglkkjkpdkpaaDoor.getP A i with holds := (Go.Proofs.YthfglkkjkpdkpaaDoor.getP A i).holds ++ [k] }) h.2 (h.getP hf) p hp
  · exact h.2 p hp⟩
theorem PJ.next (h : PJ j A) : PJ (j + 1) (nextA A id) := ⟨h.1.next id, fun p hp => by
  unfold nextA at hp
  split at hp
  · cases hf : fnd A.ps id with
    | none => rw [hf] at hp; exact h.2 p hp
    | some i => rw [hf] at hp; exact mem_put (r := { Go.Proofs.YthfglkkjkpdkpaaDoor.getP A i with told := (Go.Proofs.YthfglkkjkpdkpaaDoor.getP A i).told ++ [nextV A id] }) h.2 (h.getP hf) p hp
  · exact h.2 p hp⟩
theorem come_gx (hP : PJ j A) (hj : j ≤ 1000) (hg : X.g = g) (hA : X.A = A) (hid : okI id) (w : World) (HS : S w [X.I]) : Calls Tryd.prog 7 #[.pointer (some ⟨g, 0, none⟩), .int .i64 id] w fun e w' => ∃ Y : XM, Y.g = g ∧ Y.A = comeA A id ∧ e = .returned (.int .i64 (comeE A id)) ∧ S w' ([Y.I] ++ [Old w (fps [X.I])]) := by
  subst hg; subst hA; obtain ⟨g, mg, dp, dc, ep, ec, seed, n, ps⟩ := X
  exact come_s j g mg dp dc ep ec seed n ps hP.1 hj id hid w HS
theorem go_gx (hP : PJ j A) (hj : j ≤ 1000) (hg : X.g = g) (hA : X.A = A) (hid : okI id) (w : World) (HS : S w [X.I]) : Calls Tryd.prog 9 #[.pointer (some ⟨g, 0, none⟩), .int .i64 id] w fun e w' => ∃ Y : XM, Y.g = g ∧ Y.A = goA A id ∧ e = .returned (.int .i64 (goE A id)) ∧ S w' ([Y.I] ++ [Old w (fps [X.I])]) := by
  subst hg; subst hA; obtain ⟨g, mg, dp, dc, ep, ec, seed, n, ps⟩ := X
  exact go_s j g mg dp dc ep ec seed n ps hP.1 hj id hid w HS
theorem holds_gx (hP : PJ j A) (hj : j ≤ 1000) (hg : X.g = g) (hA : X.A = A) (hid : okI id) (hk : okI k) (w : World) (HS : S w [X.I]) : Calls Tryd.prog 11 #[.pointer (some ⟨g, 0, none⟩), .int .i64 id, .int .i64 k] w fun e w' => ∃ Y : XM, Y.g = g ∧ Y.A = holdsA A id k ∧ e = .returned (.int .i64 (holdsE A id k)) ∧ S w' ([Y.I] ++ [Old w (fps [X.I])]) := by
  subst hg; subst hA; obtain ⟨g, mg, dp, dc, ep, ec, seed, n, ps⟩ := X
  exact holds_s j g mg dp dc ep ec seed n ps hP.1 hj id hid k hk w HS
theorem okI_ps {ps : List Pp} {seed : ByteArray} {n : Nat} (h : ∀ p ∈ (⟨seed, n, ps.map Pp.sh⟩ : SP).ps, okI p.id) : ∀ p ∈ ps, okI p.id := fun p hp => h p.sh (List.mem_map.2 ⟨p, hp, rfl⟩)
theorem next_gx (hP : PJ j A) (hj : j ≤ 1000) (hg : X.g = g) (hA : X.A = A) (hid : okI id) {w0 : World} (ht : PowTab w0) (w : World) (HS : S w [X.I, Old w0 no]) : Calls Tryd.prog 16 #[.pointer (some ⟨g, 0, none⟩), .int .i64 id] w fun e w' => ∃ Y : XM, Y.g = g ∧ Y.A = nextA A id ∧ e = .returned (.tuple #[.int .i64 (nextV A id), .int .i64 (nextE A id)]) ∧ S w' ([Y.I, Old w0 no] ++ [Old w (fps [X.I, Old w0 no])]) := by
  subst hg; subst hA; obtain ⟨g, mg, dp, dc, ep, ec, seed, n, ps⟩ := X
  exact next_s j g mg dp dc ep ec seed n ps hP.1 hj (okI_ps hP.2) w0 ht id hid w HS
theorem told_gx (hP : PJ j A) (hj : j ≤ 1000) (hg : X.g = g) (hA : X.A = A) (hid : okI id) (w : World) (HS : S w [X.I]) : Calls Tryd.prog 18 #[.pointer (some ⟨g, 0, none⟩), .int .i64 id] w fun e w' => ∃ p' c', e = .returned (.tuple #[.slice p' (toldV A id).length c', .int .i64 (findE A id)]) ∧ S w' ([Rw 3 1 p' (toldV A id).length c' (fl intL (toldV A id)), X.I] ++ [Old w (fps [X.I])]) := by
  subst hg; subst hA; obtain ⟨g, mg, dp, dc, ep, ec, seed, n, ps⟩ := X
  exact told_s j g mg dp dc ep ec seed n ps hP.1 hj id hid w HS
theorem count_gx (hP : PJ j A) (hj : j ≤ 1000) (hg : X.g = g) (hA : X.A = A) (w : World) (HS : S w [X.I]) : Calls Tryd.prog 19 #[.pointer (some ⟨g, 0, none⟩), .int .i64 k] w fun e w' => e = .returned (.tuple #[.int .i64 (countT A k), .int .i64 (countH A k), .int .i64 (countE A k)]) ∧ S w' ([X.I] ++ [Old w (fps [X.I])]) := by
  subst hg; subst hA; obtain ⟨g, mg, dp, dc, ep, ec, seed, n, ps⟩ := X
  exact count_s j g mg dp dc ep ec seed n ps hP.1 hj k w HS
theorem whole_gx (hP : PJ j A) (hj : j ≤ 1000) (hg : X.g = g) (hA : X.A = A) (w : World) (HS : S w [X.I]) : Calls Tryd.prog 21 #[.pointer (some ⟨g, 0, none⟩)] w fun e w' => e = .returned (.bool (wholeB A)) ∧ S w' ([X.I] ++ [Old w (fps [X.I])]) := by
  subst hg; subst hA; obtain ⟨g, mg, dp, dc, ep, ec, seed, n, ps⟩ := X
  exact whole_s j g mg dp dc ep ec seed n ps hP.1 hj w HS
theorem come_gr (hP : PJ j A) (hj : j ≤ 1000) (hg : Z.h = g) (hA : Z.A = A) (w : World) (HS : S w [Z.I]) : Calls Tryd.prog 8 #[.pointer (some ⟨g, 0, none⟩), .int .i64 id] w fun e w' => ∃ Y : RM, Y.h = g ∧ Y.A = comeA A id ∧ e = .returned (.int .i64 (comeE A id)) ∧ S w' ([Y.I] ++ [Old w (fps [Z.I])]) := by
  subst hg; subst hA; obtain ⟨h, pp, kc, seed, n, rs⟩ := Z
  exact comer_s j h pp kc seed n rs hP.1 hj id w HS
theorem go_gr (hP : PJ j A) (hj : j ≤ 1000) (hg : Z.h = g) (hA : Z.A = A) (w : World) (HS : S w [Z.I]) : Calls Tryd.prog 10 #[.pointer (some ⟨g, 0, none⟩), .int .i64 id] w fun e w' => ∃ Y : RM, Y.h = g ∧ Y.A = goA A id ∧ e = .returned (.int .i64 (goE A id)) ∧ S w' ([Y.I] ++ [Old w (fps [Z.I])]) := by
  subst hg; subst hA; obtain ⟨h, pp, kc, seed, n, rs⟩ := Z
  exact gor_s j h pp kc seed n rs hP.1 hj id w HS
theorem holds_gr (hP : PJ j A) (hj : j ≤ 1000) (hg : Z.h = g) (hA : Z.A = A) (w : World) (HS : S w [Z.I]) : Calls Tryd.prog 12 #[.pointer (some ⟨g, 0, none⟩), .int .i64 id, .int .i64 k] w fun e w' => ∃ Y : RM, Y.h = g ∧ Y.A = holdsA A id k ∧ e = .returned (.int .i64 (holdsE A id k)) ∧ S w' ([Y.I] ++ [Old w (fps [Z.I])]) := by
  subst hg; subst hA; obtain ⟨h, pp, kc, seed, n, rs⟩ := Z
  exact holdsr_s j h pp kc seed n rs hP.1 hj id k w HS
theorem next_gr (hP : PJ j A) (hj : j ≤ 1000) (hg : Z.h = g) (hA : Z.A = A) {w0 : World} (ht : PowTab w0) (w : World) (HS : S w [Z.I, Old w0 no]) : Calls Tryd.prog 17 #[.pointer (some ⟨g, 0, none⟩), .int .i64 id] w fun e w' => ∃ Y : RM, Y.h = g ∧ Y.A = nextA A id ∧ e = .returned (.tuple #[.int .i64 (nextV A id), .int .i64 (nextE A id)]) ∧ S w' ([Y.I, Old w0 no] ++ [Old w (fps [Z.I, Old w0 no])]) := by
  subst hg; subst hA; obtain ⟨h, pp, kc, seed, n, rs⟩ := Z
  exact nextr_s j h pp kc seed n rs hP.1 hj w0 ht id w HS
theorem told_gr (hP : PJ j A) (hj : j ≤ 1000) (hg : Z.h = g) (hA : Z.A = A) (w : World) (HS : S w [Z.I]) : Calls Tryd.prog 13 #[.pointer (some ⟨g, 0, none⟩), .int .i64 id] w fun e w' => ∃ p' c', e = .returned (.tuple #[.slice p' (toldV A id).length c', .int .i64 (findE A id)]) ∧ (∀ w9, S w9 [Z.I] → Reads w9 p' (toldV A id).length c' 1 (fl intL (toldV A id))) ∧ S w' ([Z.I] ++ [Old w (fps [Z.I])]) := by
  subst hg; subst hA; obtain ⟨h, pp, kc, seed, n, rs⟩ := Z
  exact toldr_s j h pp kc seed n rs hP.1 hj id w HS
theorem count_gr (hP : PJ j A) (hj : j ≤ 1000) (hg : Z.h = g) (hA : Z.A = A) (w : World) (HS : S w [Z.I]) : Calls Tryd.prog 14 #[.pointer (some ⟨g, 0, none⟩), .int .i64 k] w fun e w' => e = .returned (.tuple #[.int .i64 (countT A k), .int .i64 (countH A k), .int .i64 (countE A k)]) ∧ S w' ([Z.I] ++ [Old w (fps [Z.I])]) := by
  subst hg; subst hA; obtain ⟨h, pp, kc, seed, n, rs⟩ := Z
  exact countr_s j h pp kc seed n rs hP.1 hj k w HS
theorem whole_gr (hP : PJ j A) (hj : j ≤ 1000) (hg : Z.h = g) (hA : Z.A = A) (w : World) (HS : S w [Z.I]) : Calls Tryd.prog 22 #[.pointer (some ⟨g, 0, none⟩)] w fun e w' => e = .returned (.bool (wholeB A)) ∧ S w' ([Z.I] ++ [Old w (fps [Z.I])]) := by
  subst hg; subst hA; obtain ⟨h, pp, kc, seed, n, rs⟩ := Z
  exact wholer_s j h pp kc seed n rs hP.1 hj w HS
theorem toldV_len (h : PJ j A) (id : Int) : (toldV A id).length ≤ j := by
  unfold toldV
  cases hf : fnd A.ps id with
  | none => exact Nat.zero_le _
  | some i =>
    obtain ⟨p, hp, _⟩ := fnd_some hf
    show (Go.Proofs.YthfglkkjkpdkpaaDoor.getP A i).told.length ≤ j
    rw [getP_at hp]; exact (h.1.at hp).2.1
def newE (seed : ByteArray) (pc : Int) : Int := if 100 < seed.size then 1 else if pc < 1 ∨ 4096 < pc then 7 else 0
theorem new_pj {seed : ByteArray} {pc : Int} (h : newE seed pc = 0) (h30 : pc ≤ 30) : PJ 0 ⟨seed, pc.toNat, []⟩ := by
  unfold newE at h
  by_cases h1 : 100 < seed.size
  · rw [if_pos h1] at h; cases h
  · exact ⟨⟨by show pc.toNat ≤ 30; omega, by show seed.size ≤ 100; omega, List.nodup_nil, Nat.zero_le _, fun p hp => by cases hp⟩, fun p hp => by cases hp⟩
theorem fl_rep (n : Nat) : (Array.replicate n (Value.int .i64 0)).toList = fl intL (cntL n fun _ => 0) := by
  rw [Array.toList_replicate]
  unfold cntL fl
  induction n with
  | zero => rfl
  | succ n ih =>
    rw [List.range_succ, List.map_append, List.flatMap_append, ← ih, List.replicate_succ']; rfl
/-- There is one that nobody was told, and that nobody holds. -/
def Fresh (A : SP) (id : Int) (m : Nat) : Prop := ∃ k : Nat, k < m ∧ countT A k = 0 ∧ countH A k = 0 ∧ (k : Int) ∉ toldV A id
theorem fresh_law (h : PJ j A) (hz : nextE A id = 0) {m : Nat} (hm : m ≤ A.n) (hf : Fresh A id m) : countT A (nextV A id) = 0 := by
  obtain ⟨k, hk, h1, h2, h3⟩ := hf
  have hn : ¬ ((k : Int) < 0 ∨ (A.n : Int) ≤ (k : Int)) := by omega
  unfold countT at h1
  unfold countH at h2
  rw [if_neg hn] at h1 h2
  have := next_fresh h.1 hz (k := k) (by omega) (by omega) (by omega) h3
  unfold countT
  split
  · rfl
  · omega
end Go.Proofs.YthfglkkjkpdkpaaDoor
