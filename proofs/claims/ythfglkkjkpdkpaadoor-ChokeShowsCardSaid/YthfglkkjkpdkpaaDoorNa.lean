import Derived.Test.YthfglkkjkpdkpaaDoorSel
import Derived.Test.YthfglkkjkpdkpaaDoorMj
import Derived.Test.YthfglkkjkpdkpaaDoorHc
import Derived.Test.YthfglkkjkpdkpaaDoorGi
set_option linter.unusedSimpArgs false
set_option linter.unusedVariables false
namespace Go.Proofs.YthfglkkjkpdkpaaDoor
open Go.RowKit

/-! ## What a Super holds, in plain words -/
structure Sh where
  id : Int
  told : List Int
  holds : List Int
structure SP where
  seed : ByteArray
  n : Nat
  ps : List Sh
def fnd (ps : List Sh) (id : Int) : Option Nat := ps.findIdx? fun p => decide (p.id = id)
theorem fnd_some {ps : List Sh} {id : Int} {i : Nat} (h : fnd ps id = some i) : ∃ p, ps[i]? = some p ∧ p.id = id := by
  unfold fnd at h
  rw [List.findIdx?_eq_some_iff_getElem] at h
  obtain ⟨h1, h2, _⟩ := h
  exact ⟨_, List.getElem?_eq_getElem h1, of_decide_eq_true h2⟩
theorem fnd_none {ps : List Sh} {id : Int} (h : fnd ps id = none) : ∀ p ∈ ps, p.id ≠ id := fun p hp he => by
  unfold fnd at h
  rw [List.findIdx?_eq_none_iff] at h
  have := h p hp
  rw [decide_eq_false_iff_not] at this
  exact this he
theorem fnd_of {ps : List Sh} (hn : (ps.map Sh.id).Nodup) {id : Int} {i : Nat} {p : Sh} (hp : ps[i]? = some p) (he : p.id = id) : fnd ps id = some i := by
  unfold fnd
  rw [List.findIdx?_eq_some_iff_getElem]
  obtain ⟨h1, h2⟩ := List.getElem?_eq_some_iff.1 hp
  refine ⟨h1, by rw [h2]; exact decide_eq_true he, fun j hj => ?_⟩
  have := List.pairwise_iff_getElem.1 hn j i (by rw [List.length_map]; omega) (by rw [List.length_map]; exact h1) hj
  rw [List.getElem_map, List.getElem_map, h2, he] at this
  simpa using this
theorem fnd_no {ps : List Sh} {id : Int} (h : ∀ p ∈ ps, p.id ≠ id) : fnd ps id = none := by
  unfold fnd
  rw [List.findIdx?_eq_none_iff]
  exact fun p hp => decide_eq_false (h p hp)
def cntL (n : Nat) (f : Nat → Int) : List Int := (List.range n).map f
theorem cntL_len (n : Nat) (f : Nat → Int) : (cntL n f).length = n := by unfold cntL; simp
theorem cntL_at {n : Nat} {f : Nat → Int} {k : Nat} {x : Int} (h : (cntL n f)[k]? = some x) : k < n ∧ x = f k := by
  unfold cntL at h
  rw [List.getElem?_map] at h
  by_cases hk : k < n
  · rw [List.getElem?_range hk] at h
    exact ⟨hk, (Option.some.inj h).symm⟩
  · rw [List.getElem?_eq_none (by simp; omega)] at h; cases h
theorem cntL_set (n : Nat) (f : Nat → Int) (k : Nat) (v : Int) : (cntL n f).set k v = cntL n fun i => if i = k then v else f i := by
  refine List.ext_getElem? fun i => ?_
  unfold cntL
  by_cases hk : i = k
  · subst hk
    by_cases hn : i < n
    · rw [List.getElem?_set_self (by simpa using hn), List.getElem?_map, List.getElem?_range hn]
      show _ = some (if i = i then v else f i)
      rw [if_pos rfl]
    · rw [List.getElem?_eq_none (by simp; omega), List.getElem?_eq_none (by simp; omega)]
  · rw [List.getElem?_set_ne (Ne.symm hk), List.getElem?_map, List.getElem?_map]
    by_cases hn : i < n
    · rw [List.getElem?_range hn]
      show some (f i) = some (if i = k then v else f i)
      rw [if_neg hk]
    · rw [List.getElem?_eq_none (by simp; omega)]; rfl
theorem cntL_congr {n : Nat} {f g : Nat → Int} (h : ∀ k, k < n → f k = g k) : cntL n f = cntL n g := by
  unfold cntL
  exact List.map_congr_left fun k hk => h k (List.mem_range.1 hk)
theorem cntL_mem {n : Nat} {f : Nat → Int} {x : Int} : x ∈ cntL n f ↔ ∃ k, k < n ∧ f k = x := by
  unfold cntL
  simp only [List.mem_map, List.mem_range]
def tcN (ps : List Sh) (k : Int) : Nat := (ps.filter fun p => decide (k ∈ p.told)).length
def hcN (ps : List Sh) (k : Int) : Nat := (ps.filter fun p => decide (k ∈ p.holds)).length
def b01 (b : Bool) : Nat := if b = true then 1 else 0
theorem filter_out {α : Type} {l : List α} {i : Nat} {p : α} (q : α → Bool) (h : l[i]? = some p) : (l.filter q).length = b01 (q p) + ((l.eraseIdx i).filter q).length := by
  have h1 := ((perm_erase h).filter q).length_eq
  rw [h1, List.filter_cons]
  unfold b01
  split <;> simp [*] <;> omega
theorem filter_put {α : Type} {l : List α} {i : Nat} {p r : α} (q : α → Bool) (h : l[i]? = some p) : ((l.set i r).filter q).length + b01 (q p) = (l.filter q).length + b01 (q r) := by
  have hi := (List.getElem?_eq_some_iff.1 h).1
  have h1 : (l.set i r)[i]? = some r := List.getElem?_set_self hi
  have h2 := filter_out q h
  have h3 := filter_out q h1
  rw [List.eraseIdx_set_eq] at h3
  omega
def findE (A : SP) (id : Int) : Int := match fnd A.ps id with | some _ => 0 | none => if id < 0 then 7 else 8
def comeE (A : SP) (id : Int) : Int := match fnd A.ps id with | some _ => 6 | none => if id < 0 then 7 else 0
def comeA (A : SP) (id : Int) : SP := if comeE A id = 0 then { A with ps := A.ps ++ [⟨id, [], []⟩] } else A
def goA (A : SP) (id : Int) : SP := match fnd A.ps id with | some i => { A with ps := A.ps.eraseIdx i } | none => A
def getP (A : SP) (i : Nat) : Sh := (A.ps[i]?).getD ⟨0, [], []⟩
theorem getP_at {A : SP} {i : Nat} {p : Sh} (h : A.ps[i]? = some p) : getP A i = p := by unfold getP; rw [h]; rfl
def holdsE (A : SP) (id k : Int) : Int := if id < 0 ∨ k < 0 ∨ (A.n : Int) ≤ k then 7 else match fnd A.ps id with | some i => if k ∈ (getP A i).holds then 9 else 0 | none => 8
def holdsA (A : SP) (id k : Int) : SP := if holdsE A id k = 0 then (match fnd A.ps id with | some i => { A with ps := A.ps.set i { getP A i with holds := (getP A i).holds ++ [k] } } | none => A) else A
def toldV (A : SP) (id : Int) : List Int := match fnd A.ps id with | some i => (getP A i).told | none => []
def countE (A : SP) (k : Int) : Int := if k < 0 ∨ (A.n : Int) ≤ k then 7 else 0
def countT (A : SP) (k : Int) : Int := if k < 0 ∨ (A.n : Int) ≤ k then 0 else (tcN A.ps k : Int)
def countH (A : SP) (k : Int) : Int := if k < 0 ∨ (A.n : Int) ≤ k then 0 else (hcN A.ps k : Int)
def wholeB (A : SP) : Bool := !decide ((0 : Int) ∈ cntL A.n fun k => (hcN A.ps k : Int))
def oldS (s : ByteArray) : ByteArray := (sumS ((⟨#[111, 108, 100, 58]⟩ : ByteArray) ++ s)).extract 0 20
def rankS (seed : ByteArray) (k : Int) : ByteArray := oldS ((seed ++ ⟨#[58]⟩) ++ itS k)
def cN (seed : ByteArray) (ps : List Sh) (x y : Int) : Int := if (tcN ps x : Int) - tcN ps y ≠ 0 then (tcN ps x : Int) - tcN ps y else if (hcN ps x : Int) - hcN ps y ≠ 0 then (hcN ps x : Int) - hcN ps y else cmpSt (rankS seed x) (rankS seed y)
theorem wk_key {α : Type} {c : α → α → Int} (k : α → Int) (h : Wk c) : Wk fun x y => if k x - k y ≠ 0 then k x - k y else c x y := by
  refine ⟨fun x y => ?_, fun x y z => ?_⟩
  · show (if k x - k y ≠ 0 then k x - k y else c x y) < 0 ↔ 0 < (if k y - k x ≠ 0 then k y - k x else c y x)
    by_cases h1 : k x - k y ≠ 0
    · rw [if_pos h1, if_pos (show k y - k x ≠ 0 by omega)]; omega
    · rw [if_neg h1, if_neg (show ¬ k y - k x ≠ 0 by omega)]; exact h.anti x y
  · show (if k x - k y ≠ 0 then k x - k y else c x y) ≤ 0 → (if k y - k z ≠ 0 then k y - k z else c y z) ≤ 0 → (if k x - k z ≠ 0 then k x - k z else c x z) ≤ 0
    intro h1 h2
    by_cases h3 : k x - k y ≠ 0 <;> by_cases h4 : k y - k z ≠ 0
    · rw [if_pos h3] at h1; rw [if_pos h4] at h2; rw [if_pos (by omega)]; omega
    · rw [if_pos h3] at h1; rw [if_pos (by omega)]; omega
    · rw [if_pos h4] at h2; rw [if_pos (by omega)]; omega
    · rw [if_neg h3] at h1; rw [if_neg h4] at h2; rw [if_neg (by omega)]; exact h.trans x y z h1 h2
theorem cN_wk (seed : ByteArray) (ps : List Sh) : Wk (cN seed ps) :=
  wk_key (fun x => (tcN ps x : Int)) (wk_key (fun x => (hcN ps x : Int)) ⟨fun x y => cmpSt_wk.anti _ _, fun x y z => cmpSt_wk.trans _ _ _⟩)
/-- What may be told, of the first m. -/
def qC (p : Sh) (k : Int) : Bool := !decide (k ∈ p.holds) && !decide (k ∈ p.told)
def candM (p : Sh) (m : Nat) : List Int := ((List.range m).map fun k : Nat => (k : Int)).filter (qC p)
theorem cand_snoc (p : Sh) (m : Nat) : candM p (m + 1) = candM p m ++ if qC p (m : Int) = true then [(m : Int)] else [] := by
  unfold candM
  rw [List.range_succ, List.map_append, List.filter_append]
  congr 1
  rw [List.map_singleton, List.filter_cons, List.filter_nil]
theorem cand_mem {p : Sh} {m : Nat} {x : Int} (h : x ∈ candM p m) : 0 ≤ x ∧ x < m ∧ x ∉ p.holds ∧ x ∉ p.told := by
  unfold candM at h
  obtain ⟨h1, h2⟩ := List.mem_filter.1 h
  obtain ⟨k, hk, rfl⟩ := List.mem_map.1 h1
  have := List.mem_range.1 hk
  unfold qC at h2
  simp only [Bool.and_eq_true, Bool.not_eq_true', decide_eq_false_iff_not] at h2
  exact ⟨by omega, by omega, h2⟩
theorem cand_of {p : Sh} {m : Nat} {k : Nat} (hk : k < m) (h1 : (k : Int) ∉ p.holds) (h2 : (k : Int) ∉ p.told) : (k : Int) ∈ candM p m := by
  unfold candM
  refine List.mem_filter.2 ⟨List.mem_map.2 ⟨k, List.mem_range.2 hk, rfl⟩, ?_⟩
  unfold qC
  simp [h1, h2]
theorem cand_len (p : Sh) (m : Nat) : (candM p m).length ≤ m := by
  unfold candM
  refine Nat.le_trans (List.length_filter_le ..) (by simp)
noncomputable def bestI (seed : ByteArray) (ps : List Sh) (l : List Int) : Int := (srt 0 (cN seed ps) l).headD 0
theorem bestI_is {seed : ByteArray} {ps : List Sh} {l : List Int} (hl : l.length < 40) {j : Nat} {x : Int} (h : IsBest (cN seed ps) l l.length j x) : bestI seed ps l = x := by
  unfold bestI
  rw [srt_best (cN_wk seed ps) hl h]; rfl
def othN (ps : List Sh) (p : Sh) (k : Int) : Int := (hcN ps k : Int) - if k ∈ p.holds then 1 else 0
open Classical in
noncomputable def waitB (A : SP) (p : Sh) : Bool := match p.told.getLast? with | none => false | some k => decide (othN A.ps p k = 0 ∧ (1 < A.ps.length ∨ k ∉ p.holds))
noncomputable def nextE (A : SP) (id : Int) : Int := match fnd A.ps id with | none => if id < 0 then 7 else 8 | some i => if waitB A (getP A i) = true then 9 else if candM (getP A i) A.n = [] then 9 else 0
noncomputable def nextV (A : SP) (id : Int) : Int := match fnd A.ps id with | none => 0 | some i => if nextE A id = 0 then bestI A.seed A.ps (candM (getP A i) A.n) else 0
noncomputable def nextA (A : SP) (id : Int) : SP := if nextE A id = 0 then (match fnd A.ps id with | some i => { A with ps := A.ps.set i { getP A i with told := (getP A i).told ++ [nextV A id] } } | none => A) else A
/-- What always holds of it, after j acts. -/
structure PI (j : Nat) (A : SP) : Prop where
  n30 : A.n ≤ 30
  sd : A.seed.size ≤ 100
  nd : (A.ps.map Sh.id).Nodup
  len : A.ps.length ≤ j
  ok : ∀ p ∈ A.ps, 0 ≤ p.id ∧ p.told.length ≤ j ∧ p.holds.length ≤ j ∧ p.told.Nodup ∧ (∀ k ∈ p.told, 0 ≤ k ∧ k < A.n) ∧ ∀ k ∈ p.holds, 0 ≤ k ∧ k < A.n
variable {A : SP} {j i : Nat} {id k : Int} {p : Sh}
theorem PI.mono {j' : Nat} (h : PI j A) (hj : j ≤ j') : PI j' A := ⟨h.n30, h.sd, h.nd, Nat.le_trans h.len hj, fun p hp => by have := h.ok p hp; exact ⟨this.1, by omega, by omega, this.2.2.2⟩⟩
theorem PI.at (h : PI j A) (hp : A.ps[i]? = some p) : 0 ≤ p.id ∧ p.told.length ≤ j ∧ p.holds.length ≤ j ∧ p.told.Nodup ∧ (∀ k ∈ p.told, 0 ≤ k ∧ k < A.n) ∧ ∀ k ∈ p.holds, 0 ≤ k ∧ k < A.n := h.ok p (List.mem_of_getElem? hp)
theorem PI.neg (h : PI j A) (hi : fnd A.ps id = some i) : 0 ≤ id := by
  obtain ⟨p, hp, rfl⟩ := fnd_some hi
  exact (h.at hp).1
theorem PI.come (h : PI j A) (id : Int) : PI (j + 1) (comeA A id) := by
  unfold comeA
  by_cases h1 : comeE A id = 0
  · rw [if_pos h1]
    unfold comeE at h1
    cases h2 : fnd A.ps id with
    | some i => rw [h2] at h1; cases h1
    | none =>
      rw [h2] at h1
      have h3 : ¬ id < 0 := fun hn => by
        have h1 : (if id < 0 then (7 : Int) else 0) = 0 := h1
        rw [if_pos hn] at h1; cases h1
      refine ⟨h.n30, h.sd, ?_, by show (A.ps ++ _).length ≤ _; rw [List.length_append, List.length_singleton]; have := h.len; omega, fun p hp => ?_⟩
      · show ((A.ps ++ _).map Sh.id).Nodup
        rw [List.map_append, List.nodup_append]
        refine ⟨h.nd, by simp, fun a ha b hb e => ?_⟩
        obtain ⟨p, hp, rfl⟩ := List.mem_map.1 ha
        rw [List.map_singleton, List.mem_singleton] at hb
        exact fnd_none h2 p hp (e.trans hb)
      · rcases List.mem_append.1 hp with hp | hp
        · exact (h.mono (Nat.le_succ j)).ok p hp
        · rw [List.mem_singleton] at hp; subst hp
          exact ⟨by show 0 ≤ id; omega, Nat.zero_le _, Nat.zero_le _, List.nodup_nil, (fun k hk => by cases hk), (fun k hk => by cases hk)⟩
  · rw [if_neg h1]; exact h.mono (Nat.le_succ j)
theorem PI.go (h : PI j A) (id : Int) : PI (j + 1) (goA A id) := by
  unfold goA
  cases fnd A.ps id with
  | none => exact h.mono (Nat.le_succ j)
  | some i => exact ⟨h.n30, h.sd, h.nd.sublist ((List.eraseIdx_sublist ..).map Sh.id), Nat.le_trans (List.length_eraseIdx_le ..) (by have := h.len; omega), fun p hp => (h.mono (Nat.le_succ j)).ok p (List.mem_of_mem_eraseIdx hp)⟩
theorem map_set_id {ps : List Sh} {i : Nat} {p r : Sh} (hp : ps[i]? = some p) (he : r.id = p.id) : (ps.set i r).map Sh.id = ps.map Sh.id := by
  rw [List.map_set, he]
  obtain ⟨h1, h2⟩ := List.getElem?_eq_some_iff.1 hp
  have h3 : (ps.map Sh.id)[i]? = some p.id := by rw [List.getElem?_map, hp]; rfl
  refine List.ext_getElem? fun k => ?_
  by_cases hk : k = i
  · subst hk; rw [List.getElem?_set_self (by rw [List.length_map]; exact h1), h3]
  · rw [List.getElem?_set_ne (Ne.symm hk)]
theorem PI.put {r : Sh} (h : PI j A) (hp : A.ps[i]? = some p) (he : r.id = p.id) (hr : r.told.length ≤ j + 1 ∧ r.holds.length ≤ j + 1 ∧ r.told.Nodup ∧ (∀ k ∈ r.told, 0 ≤ k ∧ k < A.n) ∧ ∀ k ∈ r.holds, 0 ≤ k ∧ k < A.n) : PI (j + 1) { A with ps := A.ps.set i r } :=
  ⟨h.n30, h.sd, by show ((A.ps.set i r).map Sh.id).Nodup; rw [map_set_id hp he]; exact h.nd, by show (A.ps.set i r).length ≤ _; rw [List.length_set]; have := h.len; omega, fun q hq => by
    rcases List.mem_or_eq_of_mem_set hq with hq | rfl
    · exact (h.mono (Nat.le_succ j)).ok q hq
    · exact ⟨by rw [he]; exact (h.at hp).1, hr⟩⟩
theorem PI.holds (h : PI j A) (id k : Int) : PI (j + 1) (holdsA A id k) := by
  unfold holdsA
  by_cases h1 : holdsE A id k = 0
  · rw [if_pos h1]
    cases h2 : fnd A.ps id with
    | none => exact h.mono (Nat.le_succ j)
    | some i =>
      obtain ⟨p, hp, rfl⟩ := fnd_some h2
      unfold holdsE at h1
      have h3 : ¬ (p.id < 0 ∨ k < 0 ∨ (A.n : Int) ≤ k) := fun hn => by rw [if_pos hn] at h1; cases h1
      have h4 := h.at hp
      show PI (j + 1) { A with ps := A.ps.set i { getP A i with holds := (getP A i).holds ++ [k] } }
      rw [getP_at hp]
      refine h.put hp rfl ⟨Nat.le_succ_of_le h4.2.1, ?_, h4.2.2.2.1, h4.2.2.2.2.1, fun x hx => ?_⟩
      · show (p.holds ++ [k]).length ≤ _
        rw [List.length_append, List.length_singleton]; omega
      · rcases List.mem_append.1 hx with hx | hx
        · exact h4.2.2.2.2.2 x hx
        · rw [List.mem_singleton] at hx; subst hx; omega
  · rw [if_neg h1]; exact h.mono (Nat.le_succ j)
theorem best_exists {c : Int → Int → Int} (W : Wk c) : ∀ {l : List Int}, l ≠ [] → ∃ j x, IsBest c l l.length j x := by
  intro l hl
  have key : ∀ k, k + 1 ≤ l.length → ∃ j x, IsBest c l (k + 1) j x := by
    intro k
    induction k with
    | zero =>
      intro hk
      obtain ⟨x, hx⟩ := ex_at (l := l) (j := 0) (by omega)
      exact ⟨0, x, IsBest.first W hx⟩
    | succ k ih =>
      intro hk
      obtain ⟨j, x, hb⟩ := ih (by omega)
      obtain ⟨y, hy⟩ := ex_at (l := l) (j := k + 1) (by omega)
      by_cases hc : c y x < 0
      · exact ⟨_, _, hb.take W hy hc⟩
      · exact ⟨_, _, hb.keep hy hc⟩
  have hp : 0 < l.length := List.length_pos_iff.2 hl
  obtain ⟨j, x, h⟩ := key (l.length - 1) (by omega)
  rw [show l.length - 1 + 1 = l.length by omega] at h
  exact ⟨j, x, h⟩
theorem PI.best (h : PI j A) (hp : A.ps[i]? = some p) (hc : candM p A.n ≠ []) : bestI A.seed A.ps (candM p A.n) ∈ candM p A.n := by
  obtain ⟨q, x, hb⟩ := best_exists (cN_wk A.seed A.ps) hc
  rw [bestI_is (by have := cand_len p A.n; have := h.n30; omega) hb]
  exact List.mem_of_getElem? hb.2.1
theorem nextE_0 (hf : fnd A.ps id = some i) (hz : nextE A id = 0) : waitB A (getP A i) = false ∧ candM (getP A i) A.n ≠ [] := by
  unfold nextE at hz
  rw [hf] at hz
  have hz : (if waitB A (getP A i) = true then (9 : Int) else if candM (getP A i) A.n = [] then 9 else 0) = 0 := hz
  by_cases h1 : waitB A (getP A i) = true
  · rw [if_pos h1] at hz; cases hz
  · rw [if_neg h1] at hz
    by_cases h2 : candM (getP A i) A.n = []
    · rw [if_pos h2] at hz; cases hz
    · exact ⟨by simpa using h1, h2⟩
theorem PI.next (h : PI j A) (id : Int) : PI (j + 1) (nextA A id) := by
  unfold nextA
  by_cases h1 : nextE A id = 0
  · rw [if_pos h1]
    cases h2 : fnd A.ps id with
    | none => exact h.mono (Nat.le_succ j)
    | some i =>
      obtain ⟨p, hp, he⟩ := fnd_some h2
      have h3 := nextE_0 h2 h1
      have h4 := h.at hp
      show PI (j + 1) { A with ps := A.ps.set i { getP A i with told := (getP A i).told ++ [nextV A id] } }
      have h5 : nextV A id = bestI A.seed A.ps (candM (getP A i) A.n) := by unfold nextV; rw [h2]; exact if_pos h1
      rw [h5]
      rw [getP_at hp] at h3 ⊢
      have h6 := cand_mem (h.best hp h3.2)
      refine h.put hp rfl ⟨?_, Nat.le_succ_of_le h4.2.2.1, ?_, fun x hx => ?_, h4.2.2.2.2.2⟩
      · show (p.told ++ _).length ≤ _
        rw [List.length_append, List.length_singleton]; omega
      · show (p.told ++ _).Nodup
        rw [List.nodup_append]
        refine ⟨h4.2.2.2.1, by simp, fun a ha b hb e => ?_⟩
        rw [List.mem_singleton] at hb
        subst e; subst hb
        exact h6.2.2.2 ha
      · rcases List.mem_append.1 hx with hx | hx
        · exact h4.2.2.2.2.1 x hx
        · rw [List.mem_singleton] at hx; subst hx
          exact ⟨h6.1, h6.2.1⟩
  · rw [if_neg h1]; exact h.mono (Nat.le_succ j)
/-- Nobody was told it, and nobody holds it: then what is told is such a one. -/
theorem next_fresh (h : PI j A) (hz : nextE A id = 0) {k : Nat} (hk : k < A.n) (h1 : tcN A.ps k = 0) (h2 : hcN A.ps k = 0) (h3 : (k : Int) ∉ toldV A id) : tcN A.ps (nextV A id) = 0 := by
  cases hf : fnd A.ps id with
  | none =>
    unfold nextE at hz; rw [hf] at hz
    have hz : (if id < 0 then (7 : Int) else 8) = 0 := hz
    split at hz <;> cases hz
  | some i =>
    obtain ⟨p, hp, he⟩ := fnd_some hf
    have h4 := nextE_0 hf hz
    have h5 : nextV A id = bestI A.seed A.ps (candM (getP A i) A.n) := by unfold nextV; rw [hf]; exact if_pos hz
    have h6 : (k : Int) ∉ p.told := by
      unfold toldV at h3; rw [hf] at h3
      have h3 : (k : Int) ∉ (getP A i).told := h3
      rwa [getP_at hp] at h3
    have h7 : (k : Int) ∉ p.holds := fun hm => by
      have h8 : p ∈ A.ps.filter fun p => decide ((k : Int) ∈ p.holds) := List.mem_filter.2 ⟨List.mem_of_getElem? hp, decide_eq_true hm⟩
      unfold hcN at h2
      rw [List.eq_nil_of_length_eq_zero h2] at h8; cases h8
    rw [h5, getP_at hp]
    obtain ⟨q, x, hb⟩ := best_exists (cN_wk A.seed A.ps) (l := candM p A.n) (by rw [getP_at hp] at h4; exact h4.2)
    rw [bestI_is (by have := cand_len p A.n; have := h.n30; omega) hb]
    obtain ⟨m, hm⟩ := List.getElem?_of_mem (cand_of hk h7 h6)
    have h9 := (hb.2.2 m _ (List.getElem?_eq_some_iff.1 hm).1 hm).2
    unfold cN at h9
    by_cases h10 : (tcN A.ps (k : Int) : Int) - tcN A.ps x ≠ 0
    · rw [if_pos h10] at h9; omega
    · omega
end Go.Proofs.YthfglkkjkpdkpaaDoor
