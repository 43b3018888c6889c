import Derived.Test.YtibdlnjnomikjaaUl
set_option linter.unusedSimpArgs false
set_option linter.unusedVariables false
namespace Go.Proofs.Ytibdlnjnomikjaa
open Go.RowKit

theorem fps_big {L : List Item} : fps [Big L] = fps L := by
  funext g
  refine propext ⟨fun ⟨it, h1, h2⟩ => ?_, fun h => ⟨Big L, List.mem_singleton.2 rfl, h⟩⟩
  rw [List.mem_singleton] at h1; subst h1; exact h2
/-! ## What holds at all times -/
structure TI (j : Nat) (T : List (List Tk)) : Prop where
  rl : 1 ≤ T.length ∧ T.length ≤ 20
  lens : ∀ r ∈ T, 1 ≤ r.length ∧ r.length ≤ 20
  names : (T.flatten.map Tk.name).Nodup
  text : ∀ x ∈ T.flatten, textS x.name = true
  trk : ∀ x ∈ T.flatten, 0 ≤ x.failed ∧ x.failed ≤ j ∧ 0 ≤ x.after
theorem flatRT_snd (i : Nat) : ∀ (l : List Tk) (k : Nat), (flatRT i k l).map (fun p => p.2.2) = l
  | [], k => rfl
  | x :: l, k => by simp only [flatRT, List.map_cons, flatRT_snd i l (k + 1)]
theorem flatT_snd : ∀ (T : List (List Tk)) (i : Nat), (flatT i T).map (fun p => p.2.2) = T.flatten
  | [], i => rfl
  | r :: T, i => by simp only [flatT, List.map_append, flatRT_snd, flatT_snd T (i + 1), List.flatten_cons]
theorem flat_mem {T : List (List Tk)} {i k : Nat} {r : List Tk} {x : Tk} (h : T[i]? = some r) (hx : r[k]? = some x) : x ∈ T.flatten := List.mem_flatten.2 ⟨r, List.mem_of_getElem? h, List.mem_of_getElem? hx⟩
theorem find_name {j : Nat} {T : List (List Tk)} (h : TI j T) {i k : Nat} {r : List Tk} {x : Tk} (hi : T[i]? = some r) (hk : r[k]? = some x) : (flatT 0 T).find? (fun p => decide (p.2.2.name = x.name)) = some (i, k, x) := by
  refine find_at (f := fun t => decide (t.name = x.name)) hi hk (fun p hp => ?_) (decide_eq_true rfl)
  have hs := flatT_split hi hk
  have hn := h.names
  rw [← flatT_snd T 0, hs, List.map_append, List.map_append, List.map_cons, List.map_cons] at hn
  have h3 := (List.nodup_append.1 hn).2.2
  refine decide_eq_false fun e => ?_
  exact h3 p.2.2.name (List.mem_map.2 ⟨p.2.2, List.mem_map.2 ⟨p, hp, rfl⟩, rfl⟩) x.name (List.mem_cons_self ..) e
theorem find_there {j : Nat} {T : List (List Tk)} (h : TI j T) {x : Tk} (hx : x ∈ T.flatten) : ∃ i k r, T[i]? = some r ∧ r[k]? = some x ∧ (flatT 0 T).find? (fun p => decide (p.2.2.name = x.name)) = some (i, k, x) := by
  obtain ⟨r, hr, hxr⟩ := List.mem_flatten.1 hx
  obtain ⟨i, hi⟩ := List.getElem?_of_mem hr
  obtain ⟨k, hk⟩ := List.getElem?_of_mem hxr
  exact ⟨i, k, r, hi, hk, find_name h hi hk⟩
theorem set_split {T : List (List Tk)} {i : Nat} {r : List Tk} (h : T[i]? = some r) (r' : List Tk) : T = T.take i ++ r :: T.drop (i + 1) ∧ T.set i r' = T.take i ++ r' :: T.drop (i + 1) := by
  obtain ⟨hi, e⟩ := List.getElem?_eq_some_iff.1 h
  refine ⟨?_, by rw [List.set_eq_take_append_cons_drop, if_pos hi]⟩
  conv => lhs; rw [← List.take_append_drop i T, List.drop_eq_getElem_cons hi, e]
theorem TI.row {j j' : Nat} {T : List (List Tk)} (h : TI j T) {i : Nat} {r r' : List Tk} (hi : T[i]? = some r) (hlen : r'.length = r.length) (hn : (r'.map Tk.name).Perm (r.map Tk.name)) (ht : ∀ x ∈ r', 0 ≤ x.failed ∧ x.failed ≤ j' ∧ 0 ≤ x.after) (hj : j ≤ j') : TI j' (T.set i r') := by
  obtain ⟨e1, e2⟩ := set_split hi r'
  have hp : ((T.set i r').flatten.map Tk.name).Perm (T.flatten.map Tk.name) := by
    rw [e2]; conv => rhs; rw [e1]
    simp only [List.flatten_append, List.flatten_cons, List.map_append]
    exact (hn.append_right _).append_left _
  have hmem : ∀ x ∈ (T.set i r').flatten, x ∈ T.flatten ∨ x ∈ r' := fun x hx => by
    rw [e2] at hx
    simp only [List.flatten_append, List.flatten_cons, List.mem_append] at hx
    rw [e1]
    simp only [List.flatten_append, List.flatten_cons, List.mem_append]
    rcases hx with hx | hx | hx
    · exact .inl (.inl hx)
    · exact .inr hx
    · exact .inl (.inr (.inr hx))
  refine ⟨by rw [List.length_set]; exact h.rl, fun q hq => ?_, hp.nodup_iff.2 h.names, fun x hx => ?_, fun x hx => ?_⟩
  · rcases List.mem_or_eq_of_mem_set hq with hq | rfl
    · exact h.lens q hq
    · rw [hlen]; exact h.lens r (List.mem_of_getElem? hi)
  · obtain ⟨y, hy, e⟩ := List.mem_map.1 (hp.mem_iff.1 (List.mem_map.2 ⟨x, hx, rfl⟩))
    rw [← e]; exact h.text y hy
  · rcases hmem x hx with hx | hx
    · have := h.trk x hx; omega
    · exact ht x hx
theorem TI.mono {j j' : Nat} {T : List (List Tk)} (h : TI j T) (hj : j ≤ j') : TI j' T := ⟨h.rl, h.lens, h.names, h.text, fun x hx => by have := h.trk x hx; omega⟩
theorem TI.getD {T : List (List Tk)} {i : Nat} {r : List Tk} (h : T[i]? = some r) : T.getD i [] = r := by rw [List.getD_eq_getElem?_getD, h]; rfl
theorem TI.front {j j' : Nat} {T : List (List Tk)} (h : TI j T) {i k : Nat} {r : List Tk} {x a : Tk} (hi : T[i]? = some r) (hk : r[k]? = some x) (ha : a.name = x.name) (ht : 0 ≤ a.failed ∧ a.failed ≤ j' ∧ 0 ≤ a.after) (hj : j ≤ j') : TI j' (frontP T i k a) := by
  obtain ⟨hkl, e⟩ := List.getElem?_eq_some_iff.1 hk
  unfold frontP; rw [TI.getD hi]
  refine h.row hi ?_ ?_ ?_ hj
  · rw [List.length_cons, List.length_eraseIdx_of_lt hkl]; omega
  · have hp : (r.map Tk.name).Perm ((x :: r.eraseIdx k).map Tk.name) := (perm_erase hk).map _
    rw [List.map_cons, ha]; exact hp.symm
  · intro y hy
    rcases List.mem_cons.1 hy with rfl | hy
    · exact ht
    · have := h.trk y (List.mem_flatten.2 ⟨r, List.mem_of_getElem? hi, List.mem_of_mem_eraseIdx hy⟩); omega
theorem TI.put {j j' : Nat} {T : List (List Tk)} (h : TI j T) {i k : Nat} {r : List Tk} {x a : Tk} (hi : T[i]? = some r) (hk : r[k]? = some x) (ha : a.name = x.name) (ht : 0 ≤ a.failed ∧ a.failed ≤ j' ∧ 0 ≤ a.after) (hj : j ≤ j') : TI j' (setP T i k a) := by
  obtain ⟨hkl, e⟩ := List.getElem?_eq_some_iff.1 hk
  unfold setP; rw [TI.getD hi]
  refine h.row hi (by rw [List.length_set]) ?_ ?_ hj
  · rw [List.map_set, ha]
    have : (r.map Tk.name)[k]? = some x.name := by rw [List.getElem?_map, hk]; rfl
    rw [set_self this]
  · intro y hy
    rcases List.mem_or_eq_of_mem_set hy with hy | rfl
    · have := h.trk y (List.mem_flatten.2 ⟨r, List.mem_of_getElem? hi, hy⟩); omega
    · exact ht
theorem TI.zero {j : Nat} {T : List (List Tk)} (h : TI j T) : TI j (T.map fun l => l.map zeroT) := by
  have e : (T.map fun l => l.map zeroT).flatten = T.flatten.map zeroT := by rw [List.map_flatten]
  refine ⟨by rw [List.length_map]; exact h.rl, fun r hr => ?_, ?_, fun x hx => ?_, fun x hx => ?_⟩
  · obtain ⟨q, hq, rfl⟩ := List.mem_map.1 hr
    rw [List.length_map]; exact h.lens q hq
  · rw [e, List.map_map]; exact h.names
  · rw [e] at hx; obtain ⟨y, hy, rfl⟩ := List.mem_map.1 hx; exact h.text y hy
  · rw [e] at hx; obtain ⟨y, hy, rfl⟩ := List.mem_map.1 hx
    refine ⟨Int.le_refl _, ?_, Int.le_refl _⟩
    show (0 : Int) ≤ j; omega
theorem TI.add1 {j : Nat} {T : List (List Tk)} (h : TI j T) {s : ByteArray} (hs : textS s = true) (hno : ∀ x ∈ T.flatten, ¬ x.name = s) (hl : T.length < 20) : TI j (T ++ [[newTk s]]) := by
  have e : (T ++ [[newTk s]]).flatten = T.flatten ++ [newTk s] := by simp
  refine ⟨by rw [List.length_append, List.length_singleton]; omega, fun r hr => ?_, ?_, fun x hx => ?_, fun x hx => ?_⟩
  · rcases List.mem_append.1 hr with hr | hr
    · exact h.lens r hr
    · rw [List.mem_singleton] at hr; subst hr; exact ⟨Nat.le_refl _, by show 1 ≤ 20; omega⟩
  · rw [e, List.map_append]
    refine List.nodup_append.2 ⟨h.names, by simp, fun a ha b hb e2 => ?_⟩
    obtain ⟨y, hy, rfl⟩ := List.mem_map.1 ha
    rw [List.map_singleton, List.mem_singleton] at hb
    exact hno y hy (by rw [e2, hb]; rfl)
  · rw [e] at hx
    rcases List.mem_append.1 hx with hx | hx
    · exact h.text x hx
    · rw [List.mem_singleton] at hx; subst hx; exact hs
  · rw [e] at hx
    rcases List.mem_append.1 hx with hx | hx
    · exact h.trk x hx
    · rw [List.mem_singleton] at hx; subst hx
      refine ⟨Int.le_refl _, ?_, Int.le_refl _⟩
      show (0 : Int) ≤ j; omega
theorem TI.add2 {j : Nat} {T : List (List Tk)} (h : TI j T) {s : ByteArray} (hs : textS s = true) (hno : ∀ x ∈ T.flatten, ¬ x.name = s) {i : Nat} {r : List Tk} (hi : T[i]? = some r) (hl : r.length ≠ 20) : TI j (T.set i (r ++ [newTk s])) := by
  obtain ⟨e1, e2⟩ := set_split hi (r ++ [newTk s])
  have hp : (T.set i (r ++ [newTk s])).flatten.Perm (newTk s :: T.flatten) := by
    rw [e2]; conv => rhs; rw [e1]
    have h3 := List.perm_middle (a := newTk s) (l₁ := (T.take i).flatten ++ r) (l₂ := (T.drop (i + 1)).flatten)
    simpa using h3
  refine ⟨by rw [List.length_set]; exact h.rl, fun q hq => ?_, ?_, fun x hx => ?_, fun x hx => ?_⟩
  · rcases List.mem_or_eq_of_mem_set hq with hq | rfl
    · exact h.lens q hq
    · have := h.lens r (List.mem_of_getElem? hi)
      rw [List.length_append, List.length_singleton]; omega
  · refine (hp.map Tk.name).nodup_iff.2 ?_
    rw [List.map_cons]
    refine List.nodup_cons.2 ⟨fun hm => ?_, h.names⟩
    obtain ⟨y, hy, e⟩ := List.mem_map.1 hm
    exact hno y hy e
  · rcases List.mem_cons.1 (hp.mem_iff.1 hx) with rfl | hx
    · exact hs
    · exact h.text x hx
  · rcases List.mem_cons.1 (hp.mem_iff.1 hx) with rfl | hx
    · refine ⟨Int.le_refl _, ?_, Int.le_refl _⟩
      show (0 : Int) ≤ j; omega
    · exact h.trk x hx
structure PI (j : Nat) (A : PS) : Prop where
  ti : TI j A.T
  now : 0 ≤ A.now
  til : 0 ≤ A.til
  cur : ∀ c, A.cur = some c → ∃ x ∈ A.T.flatten, x.name = c.1
  d3 : ∀ c, A.cur = some c → c.2 = 3 → A.whole = true
  dw : A.dn = true → A.whole = true
section
variable {j : Nat} {A : PS} {n iv i : Int} {s : ByteArray}
theorem PI.mono {j' : Nat} (h : PI j A) (hj : j ≤ j') : PI j' A := ⟨h.ti.mono hj, h.now, h.til, h.cur, h.d3, h.dw⟩
theorem PI.place (h : PI j A) {c : ByteArray × Int} (hc : A.cur = some c) : ∃ i k r x, A.T[i]? = some r ∧ r[k]? = some x ∧ x.name = c.1 ∧ A.place c.1 = some (i, k, x) := by
  obtain ⟨x, hx, e⟩ := h.cur c hc
  obtain ⟨i, k, r, h1, h2, h3⟩ := find_there h.ti hx
  exact ⟨i, k, r, x, h1, h2, e, by unfold PS.place; rw [← e]; exact h3⟩
theorem tell_le {a b : Int} (h : tellS a b = 0) (ha : 0 ≤ a) : 0 ≤ b := by have := tellS_0 h; omega
theorem tell_7 {a b : Int} (h : ¬ tellS a b = 0) : tellS a b = 7 := by unfold tellS at h ⊢; split <;> simp_all
theorem PI.next (h : PI j A) : PI j (nextA A n) := by
  unfold nextA
  split
  · rename_i he
    have h0 : tellS A.now n = 0 := by unfold nextE at he; split at he <;> first | cases he | (rename_i h9; exact Decidable.of_not_not h9)
    cases hf : A.find n with
    | none => exact h
    | some p =>
      obtain ⟨_, r, h2, h3⟩ := mem_flatT.1 (List.mem_of_find?_eq_some hf)
      refine ⟨h.ti, tell_le h0 h.now, h.til, fun c hc => ?_, fun c hc h4 => ?_, h.dw⟩
      · cases hc; exact ⟨p.2.2, flat_mem h2 h3, rfl⟩
      · cases hc
        refine h.dw ?_
        have h5 : A.ev = 3 := h4
        unfold PS.ev evS at h5
        cases hd : A.dn with
        | true => rfl
        | false => rw [hd] at h5; revert h5; cases A.beg <;> cases A.stp <;> simp
  · exact h
theorem PI.when (h : PI j A) : PI j (whenA A n) := by
  unfold whenA
  split
  · rename_i he
    have h0 : tellS A.now n = 0 := by unfold whenE at he; split at he <;> first | cases he | (rename_i h9; exact Decidable.of_not_not h9)
    exact ⟨h.ti, tell_le h0 h.now, h.til, h.cur, h.d3, h.dw⟩
  · exact h
theorem PI.done (h : PI j A) : PI j (doneA A) := by
  unfold doneA
  split
  · exact h
  · exact ⟨h.ti, h.now, h.til, h.cur, fun _ _ _ => rfl, fun _ => rfl⟩
theorem PI.stop (h : PI j A) : PI j (stopA A) := ⟨h.ti, h.now, h.til, h.cur, h.d3, h.dw⟩
theorem PI.start (h : PI j A) : PI j (startA A) := by
  unfold startA
  split
  · refine ⟨h.ti.zero, h.now, Int.le_refl _, fun c hc => ?_, h.d3, fun h9 => (by cases h9)⟩
    obtain ⟨x, hx, e⟩ := h.cur c hc
    refine ⟨zeroT x, ?_, e⟩
    show zeroT x ∈ (A.T.map fun l => l.map zeroT).flatten
    rw [← List.map_flatten]; exact List.mem_map.2 ⟨x, hx, rfl⟩
  · exact h
theorem PI.fail (h : PI j A) : PI (j + 1) (failA A n) := by
  unfold failA
  split
  · rename_i he
    have h0 : tellS A.now n = 0 := by unfold failE at he; split at he <;> first | cases he | (rename_i h9; exact Decidable.of_not_not h9)
    cases hc : A.cur with
    | none => exact h.mono (Nat.le_succ _)
    | some c =>
      obtain ⟨i, k, r, x, h1, h2, h3, h4⟩ := h.place hc
      simp only [h4]
      have hx := h.ti.trk x (flat_mem h1 h2)
      have hw := waitS_ge (x.failed + 1) (by omega)
      have hn := tell_le h0 h.now
      refine ⟨h.ti.put h1 h2 rfl ?_ (Nat.le_succ _), hn, h.til, fun c hc => (by cases hc), fun c hc => (by cases hc), h.dw⟩
      unfold failT; dsimp only; omega
  · exact h.mono (Nat.le_succ _)
theorem PI.answer (h : PI j A) : PI (j + 1) (answerA A n iv) := by
  unfold answerA
  split
  · rename_i he
    have h0 : tellS A.now n = 0 := by
      unfold answerE at he; split at he
      · cases he
      · split at he
        · cases he
        · rename_i h9; exact Decidable.of_not_not h9
    have hi : 1 ≤ iv := by
      unfold answerE at he; split at he
      · cases he
      · omega
    cases hc : A.cur with
    | none => exact h.mono (Nat.le_succ _)
    | some c =>
      obtain ⟨i, k, r, x, h1, h2, h3, h4⟩ := h.place hc
      simp only [h4]
      have hn := tell_le h0 h.now
      have ht := h.til
      refine ⟨h.ti.front h1 h2 (by unfold ansT; split <;> rfl) (by unfold ansT; split <;> (dsimp only; omega)) (Nat.le_succ _), hn, ?_, fun c hc => (by cases hc), fun c hc => (by cases hc), fun h9 => h.dw ?_⟩
      · show 0 ≤ if c.2 = 2 then A.til else n + iv
        split <;> omega
      · have h8 : (A.dn && !decide (c.2 = 3)) = true := h9
        rw [Bool.and_eq_true] at h8; exact h8.1
  · exact h.mono (Nat.le_succ _)
theorem place_no (h : A.place s = none) : ∀ x ∈ A.T.flatten, ¬ x.name = s := fun x hx e => by
  obtain ⟨r, hr, hxr⟩ := List.mem_flatten.1 hx
  obtain ⟨i, hi⟩ := List.getElem?_of_mem hr
  obtain ⟨k, hk⟩ := List.getElem?_of_mem hxr
  have := List.find?_eq_none.1 h _ (flatT_mem hi hk)
  simp [e] at this
theorem PI.add (h : PI j A) : PI j (addA A i s) := by
  unfold addA
  split
  · rename_i he
    unfold addE at he
    split at he
    · cases he
    · rename_i ht
      split at he
      · cases he
      · rename_i hr
        split at he
        · cases he
        · rename_i hp
          split at he
          · cases he
          · rename_i hl
            have hs : textS s = true := by cases h9 : textS s with | true => rfl | false => exact absurd h9 ht
            have hno := place_no (Decidable.of_not_not hp)
            have h20 := h.ti.rl
            by_cases hi : i = A.T.length
            · simp only [if_pos hi]
              refine ⟨h.ti.add1 hs hno (by omega), h.now, h.til, fun c hc => ?_, h.d3, h.dw⟩
              obtain ⟨x, hx, e⟩ := h.cur c hc
              exact ⟨x, by show x ∈ (A.T ++ [[newTk s]]).flatten; rw [List.flatten_append]; exact List.mem_append_left _ hx, e⟩
            · simp only [if_neg hi]
              obtain ⟨m, rfl⟩ : ∃ m : Nat, i = (m : Int) := ⟨i.toNat, by omega⟩
              obtain ⟨r, hm⟩ : ∃ r, A.T[m]? = some r := ⟨_, List.getElem?_eq_getElem (by omega)⟩
              rw [Int.toNat_natCast, TI.getD hm] at hl ⊢
              have e2 := set_split hm (r ++ [newTk s])
              refine ⟨h.ti.add2 hs hno hm (fun e => hl (.inr ⟨by omega, e⟩)), h.now, h.til, fun c hc => ?_, h.d3, h.dw⟩
              obtain ⟨x, hx, e⟩ := h.cur c hc
              refine ⟨x, ?_, e⟩
              show x ∈ (A.T.set m (r ++ [newTk s])).flatten
              rw [e2.2]; rw [e2.1] at hx
              simp only [List.flatten_append, List.flatten_cons, List.mem_append] at hx ⊢
              rcases hx with hx | hx | hx
              · exact .inl hx
              · exact .inr (.inl (.inl hx))
              · exact .inr (.inr hx)
  · exact h
end
end Go.Proofs.Ytibdlnjnomikjaa
namespace Go.Proofs.Ytibdlnjnomikjaa
open Go.RowKit

/-! ## The program's client and the reference's, by plain state -/
structure TM where
  g : Nat
  mg : Nat
  C : Nat
  P : Option Addr
  cu : Option Nat
  ev : Int
  now : Int
  til : Int
  beg : Bool
  whole : Bool
  dn : Bool
  stp : Bool
  rows : Rws
  tk : Nat → Tk
  M : ByteArray → Option Nat
def cuV : Option Nat → Value
  | none => .pointer none
  | some y => .pointer (some ⟨y, 0, none⟩)
def TM.L (X : TM) : List Item := [Ob X.g (.cells #[cuV X.cu, .int .i64 X.ev, .slice X.P X.rows.length X.C, .map (some X.mg), .int .i64 X.now, .int .i64 X.til, .bool X.beg, .bool X.whole, .bool X.dn, .bool X.stp] 64 (0, 0)), Rw 68 1 X.P X.rows.length X.C (rosV X.rows), RowsI 59 1 ptL X.rows, Fam 71 Tk.cells (adr X.rows) X.tk, Mp Value.string (fun x : Nat => Value.pointer (some ⟨x, 0, none⟩)) okT X.mg X.M]
def TM.I (X : TM) : Item := Big X.L
def TM.T (X : TM) : List (List Tk) := (lsOf X.rows).map fun l => l.map X.tk
def TM.A (X : TM) : PS := ⟨X.T, X.now, X.cu.map fun y => ((X.tk y).name, X.ev), X.til, X.beg, X.whole, X.dn, X.stp⟩
structure TM.ok (j : Nat) (X : TM) : Prop where
  pi : PI j X.A
  cur : ∀ y, X.cu = some y → y ∈ adr X.rows
  map : ∀ s x, X.M s = some x ↔ x ∈ adr X.rows ∧ (X.tk x).name = s
theorem TM.open (X : TM) {w : World} (h : S w [X.I]) : S w (X.L ++ [Old w (fps [X.I])]) := by
  unfold TM.I
  rw [fps_big]
  have h2 : S w (X.L ++ []) := S.unbig h
  rw [List.append_nil] at h2
  exact h2.beginI
section
variable {j : Nat} {X : TM} {w : World} {n iv i : Int} {s : ByteArray}
theorem TM.flat (X : TM) : X.T.flatten = (adr X.rows).map X.tk := by unfold TM.T adr; rw [List.map_flatten]
theorem TM.pl (X : TM) : flatT 0 X.T = (flatF 0 (lsOf X.rows)).map fun p => (p.1, p.2.1, X.tk p.2.2) := flatT_map X.tk (lsOf X.rows) 0
theorem TM.ok.rows (h : X.ok j) : X.rows.length ≤ 20 := by
  have := h.pi.ti.rl.2
  have e : X.A.T.length = X.rows.length := by show ((lsOf X.rows).map _).length = _; rw [List.length_map, ls_len]
  omega
theorem TM.ok.rl (h : X.ok j) : ∀ r ∈ X.rows, r.l.length ≤ 20 := fun r hr => by
  have := (h.pi.ti.lens (r.l.map X.tk) (List.mem_map.2 ⟨r.l, List.mem_map.2 ⟨r, hr, rfl⟩, rfl⟩)).2
  rwa [List.length_map] at this
theorem TM.at (X : TM) {i k x : Nat} {r : Ro Nat} (hi : X.rows[i]? = some r) (hk : r.l[k]? = some x) : X.T[i]? = some (r.l.map X.tk) ∧ (r.l.map X.tk)[k]? = some (X.tk x) := by
  unfold TM.T lsOf
  rw [List.getElem?_map, List.getElem?_map, hi, List.getElem?_map, hk]; exact ⟨rfl, rfl⟩
theorem TM.ok.inj (h : X.ok j) {x y : Nat} (hx : x ∈ adr X.rows) (hy : y ∈ adr X.rows) (e : (X.tk x).name = (X.tk y).name) : x = y := by
  have h1 := (h.map _ x).2 ⟨hx, e⟩
  have h2 := (h.map _ y).2 ⟨hy, rfl⟩
  rw [h1] at h2; exact Option.some.inj h2
theorem TM.ok.nodup (h : X.ok j) : (adr X.rows).Nodup := by
  have := h.pi.ti.names
  rw [show X.A.T.flatten = (adr X.rows).map X.tk from X.flat, List.map_map] at this
  exact List.Pairwise.of_map _ (fun a b hab e => hab (by rw [e])) this
/-- Where one stands. -/
theorem TM.ok.place (h : X.ok j) {y : Nat} (hy : y ∈ adr X.rows) : ∃ i k r, X.rows[i]? = some r ∧ r.l[k]? = some y ∧ X.A.place (X.tk y).name = some (i, k, X.tk y) := by
  obtain ⟨l, hl, hyl⟩ := List.mem_flatten.1 hy
  obtain ⟨r, hr, rfl⟩ := List.mem_map.1 hl
  obtain ⟨i, hi⟩ := List.getElem?_of_mem hr
  obtain ⟨k, hk⟩ := List.getElem?_of_mem hyl
  exact ⟨i, k, r, hi, hk, find_name h.pi.ti (X.at hi hk).1 (X.at hi hk).2⟩
theorem TM.ok.place_none (h : X.ok j) (hn : X.M s = none) : X.A.place s = none := by
  refine List.find?_eq_none.2 fun p hp => ?_
  rw [show flatT 0 X.A.T = flatT 0 X.T from rfl, X.pl] at hp
  obtain ⟨q, hq, rfl⟩ := List.mem_map.1 hp
  intro e
  have := (h.map s q.2.2).2 ⟨mem_adr hq, of_decide_eq_true e⟩
  rw [hn] at this; cases this
theorem TM.ok.find (h : X.ok j) {ev til m : Int} : (flatT 0 X.T).find? (fun p => okS ev til m p.2.2) = ((flatF 0 (lsOf X.rows)).find? fun p => okS ev til m (X.tk p.2.2)).map fun p => (p.1, p.2.1, X.tk p.2.2) := by
  rw [X.pl, List.find?_map]; rfl
theorem when_fold {ev til : Int} {tk : Nat → Tk} : ∀ (l : List Pl) (m : Int), (l.map fun p => ((p.1, p.2.1, tk p.2.2) : PlT)).foldl (whenS ev til) m = l.foldl (whenT ev til tk) m
  | [], m => rfl
  | p :: l, m => by simp only [List.map_cons, List.foldl_cons]; exact when_fold l _
theorem TM.least (X : TM) : X.A.least = whenF X.A.ev X.til X.tk (flatF 0 (lsOf X.rows)) := by
  unfold PS.least
  rw [show flatT 0 X.A.T = flatT 0 X.T from rfl, X.pl]
  exact when_fold _ _
theorem next_x (hX : X.ok j) (w : World) (HS : S w [X.I]) : Calls Try.prog 11 #[.pointer (some ⟨X.g, 0, none⟩), .int .i64 n] w fun e w' => ∃ Y : TM, Y.g = X.g ∧ Y.ok j ∧ Y.A = nextA X.A n ∧ e = .returned (.tuple #[.agg #[.int .i64 (nextV X.A n).1, .int .i64 (nextV X.A n).2.1, .int .i64 (nextV X.A n).2.2.1, .int .i64 (nextV X.A n).2.2.2], .int .i64 (nextE X.A n)]) ∧ S w' ([Y.I] ++ [Old w (fps [X.I])]) := by
  have H := X.open HS
  have hpi := hX.pi.next (n := n)
  have hrl := hX.rl
  have hr2 := hX.rows
  obtain ⟨g, mg, C, P, cu, ev, now, til, beg, whole, dn, stp, rows, tk, M⟩ := X
  cases cu with
  | some y =>
    refine (next_u (n := n) (y := y) w (H.takes [0] (by decide))).mono ?_
    rintro e w' ⟨rfl, h⟩
    have h2 := H.absorbI (new := [_]) [0] h
    have hE : nextE (TM.A ⟨g, mg, C, P, some y, ev, now, til, beg, whole, dn, stp, rows, tk, M⟩) n = if tellS now n = 0 then 9 else tellS now n := by
      unfold nextE
      by_cases h9 : tellS now n = 0
      · rw [if_neg (fun h8 => h8 h9), if_pos h9]; rfl
      · exact (if_pos h9).trans ((if_neg h9).trans (tell_7 h9)).symm
    have hne : ¬ nextE (TM.A ⟨g, mg, C, P, some y, ev, now, til, beg, whole, dn, stp, rows, tk, M⟩) n = 0 := by
      rw [hE]; split
      · decide
      · rename_i h9; exact h9
    refine ⟨⟨g, mg, C, P, some y, ev, now, til, beg, whole, dn, stp, rows, tk, M⟩, rfl, hX, ?_, ?_, S.big (B := [_]) (h2.takes [0, 1, 2, 3, 4, 5] (by decide))⟩
    · unfold nextA; rw [if_neg hne]
    · unfold nextV; rw [if_neg hne, hE]
  | none =>
    refine (next_s (n := n) rfl (by show rows.length ≤ 1000; exact Nat.le_trans hr2 (by decide)) (fun r hr => Nat.le_trans (hrl r hr) (by decide)) w (H.takes [0, 1, 2, 3] (by decide))).mono ?_
    rintro e w' (⟨hl, rfl, h⟩ | ⟨hl, hno, rfl, h⟩ | ⟨i, k, x, post, pre, hsp, hl, hno, hok, rfl, h⟩)
    · have h2 := H.absorbI (new := [_, _, _, _]) [0, 1, 2, 3] h
      have hE : nextE (TM.A ⟨g, mg, C, P, none, ev, now, til, beg, whole, dn, stp, rows, tk, M⟩) n = 7 := if_pos hl
      refine ⟨⟨g, mg, C, P, none, ev, now, til, beg, whole, dn, stp, rows, tk, M⟩, rfl, hX, ?_, ?_, S.big (B := [_]) (h2.takes [0, 1, 2, 3, 4, 5] (by decide))⟩
      · unfold nextA; rw [if_neg (by rw [hE]; decide)]
      · unfold nextV; rw [if_neg (by rw [hE]; decide), hE, tell_7 hl]
    · have h2 := H.absorbI (new := [_, _, _, _]) [0, 1, 2, 3] h
      have hf : PS.find (TM.A ⟨g, mg, C, P, none, ev, now, til, beg, whole, dn, stp, rows, tk, M⟩) n = none := by
        unfold PS.find
        rw [show flatT 0 (TM.A ⟨g, mg, C, P, none, ev, now, til, beg, whole, dn, stp, rows, tk, M⟩).T = flatT 0 (TM.T ⟨g, mg, C, P, none, ev, now, til, beg, whole, dn, stp, rows, tk, M⟩) from rfl]
        refine (hX.find).trans ?_
        have h3 : (flatF 0 (lsOf rows)).find? (fun p => okS (evS beg dn stp) til n (tk p.2.2)) = none := List.find?_eq_none.2 fun p hp h9 => Bool.noConfusion ((hno p hp).symm.trans h9)
        exact congrArg (Option.map _) h3
      have hE : nextE (TM.A ⟨g, mg, C, P, none, ev, now, til, beg, whole, dn, stp, rows, tk, M⟩) n = 8 := by
        unfold nextE; rw [if_neg (fun h8 => h8 hl), if_neg (by intro h8; cases h8), if_pos hf]
      refine ⟨⟨g, mg, C, P, none, ev, now, til, beg, whole, dn, stp, rows, tk, M⟩, rfl, hX, ?_, ?_, S.big (B := [_]) (h2.takes [0, 1, 2, 3, 4, 5] (by decide))⟩
      · unfold nextA; rw [if_neg (by rw [hE]; decide)]
      · unfold nextV; rw [if_neg (by rw [hE]; decide), hE]
    · have h2 := H.absorbI (new := [_, _, _, _]) [0, 1, 2, 3] h
      have hf : PS.find (TM.A ⟨g, mg, C, P, none, ev, now, til, beg, whole, dn, stp, rows, tk, M⟩) n = some (i, k, tk x) := by
        unfold PS.find
        rw [show flatT 0 (TM.A ⟨g, mg, C, P, none, ev, now, til, beg, whole, dn, stp, rows, tk, M⟩).T = flatT 0 (TM.T ⟨g, mg, C, P, none, ev, now, til, beg, whole, dn, stp, rows, tk, M⟩) from rfl]
        refine (hX.find).trans ?_
        have h3 : (flatF 0 (lsOf rows)).find? (fun p => okS (evS beg dn stp) til n (tk p.2.2)) = some (i, k, x) := by
          rw [hsp, List.find?_append, List.find?_eq_none.2 fun p hp => by rw [hno p hp]; simp]
          simp [hok]
        exact congrArg (Option.map _) h3
      have hE : nextE (TM.A ⟨g, mg, C, P, none, ev, now, til, beg, whole, dn, stp, rows, tk, M⟩) n = 0 := by
        unfold nextE; rw [if_neg (fun h8 => h8 hl), if_neg (by intro h8; cases h8), if_neg (by rw [hf]; simp)]
      have hA : TM.A ⟨g, mg, C, P, some x, evS beg dn stp, n, til, beg, whole, dn, stp, rows, tk, M⟩ = nextA (TM.A ⟨g, mg, C, P, none, ev, now, til, beg, whole, dn, stp, rows, tk, M⟩) n := by
        unfold nextA; rw [if_pos hE, hf]; rfl
      have hxa : x ∈ adr rows := mem_adr (p := (i, k, x)) (by rw [hsp]; simp)
      refine ⟨⟨g, mg, C, P, some x, evS beg dn stp, n, til, beg, whole, dn, stp, rows, tk, M⟩, rfl, ⟨by rw [hA]; exact hpi, fun y hy => by cases hy; exact hxa, hX.map⟩, hA, ?_, S.big (B := [_]) (h2.takes [0, 1, 2, 3, 4, 5] (by decide))⟩
      unfold nextV; rw [if_pos hE, hf, hE]; rfl
theorem when_x (hX : X.ok j) (w : World) (HS : S w [X.I]) : Calls Try.prog 10 #[.pointer (some ⟨X.g, 0, none⟩), .int .i64 n] w fun e w' => ∃ Y : TM, Y.g = X.g ∧ Y.ok j ∧ Y.A = whenA X.A n ∧ e = .returned (.tuple #[.int .i64 (whenV X.A n), .int .i64 (whenE X.A n)]) ∧ S w' ([Y.I] ++ [Old w (fps [X.I])]) := by
  have H := X.open HS
  have hpi := hX.pi.when (n := n)
  have hrl := hX.rl
  have hr2 := hX.rows
  have hle := X.least
  obtain ⟨g, mg, C, P, cu, ev, now, til, beg, whole, dn, stp, rows, tk, M⟩ := X
  cases cu with
  | some y =>
    refine (when_u (n := n) (y := y) w (H.takes [0] (by decide))).mono ?_
    rintro e w' ⟨rfl, h⟩
    have h2 := H.absorbI (new := [_]) [0] h
    have hE : whenE (TM.A ⟨g, mg, C, P, some y, ev, now, til, beg, whole, dn, stp, rows, tk, M⟩) n = if tellS now n = 0 then 9 else tellS now n := by
      unfold whenE
      by_cases h9 : tellS now n = 0
      · rw [if_neg (fun h8 => h8 h9), if_pos h9]; rfl
      · exact (if_pos h9).trans ((if_neg h9).trans (tell_7 h9)).symm
    have hne : ¬ whenE (TM.A ⟨g, mg, C, P, some y, ev, now, til, beg, whole, dn, stp, rows, tk, M⟩) n = 0 := by
      rw [hE]; split
      · decide
      · rename_i h9; exact h9
    refine ⟨⟨g, mg, C, P, some y, ev, now, til, beg, whole, dn, stp, rows, tk, M⟩, rfl, hX, ?_, ?_, S.big (B := [_]) (h2.takes [0, 1, 2, 3, 4, 5] (by decide))⟩
    · unfold whenA; rw [if_neg hne]
    · unfold whenV; rw [if_neg hne, hE]
  | none =>
    refine (when_s (n := n) rfl (by show rows.length ≤ 1000; exact Nat.le_trans hr2 (by decide)) (fun r hr => Nat.le_trans (hrl r hr) (by decide)) w (H.takes [0, 1, 2, 3] (by decide))).mono ?_
    rintro e w' (⟨hl, rfl, h⟩ | ⟨hl, hno, rfl, h⟩ | ⟨hl, hw1, hw2, rfl, h⟩)
    · have h2 := H.absorbI (new := [_, _, _, _]) [0, 1, 2, 3] h
      have hE : whenE (TM.A ⟨g, mg, C, P, none, ev, now, til, beg, whole, dn, stp, rows, tk, M⟩) n = 7 := if_pos hl
      refine ⟨⟨g, mg, C, P, none, ev, now, til, beg, whole, dn, stp, rows, tk, M⟩, rfl, hX, ?_, ?_, S.big (B := [_]) (h2.takes [0, 1, 2, 3, 4, 5] (by decide))⟩
      · unfold whenA; rw [if_neg (by rw [hE]; decide)]
      · unfold whenV; rw [if_neg (by rw [hE]; decide), hE, tell_7 hl]
    · have h2 := H.absorbI (new := [_, _, _, _]) [0, 1, 2, 3] h
      have hE : whenE (TM.A ⟨g, mg, C, P, none, ev, now, til, beg, whole, dn, stp, rows, tk, M⟩) n = 8 := by
        unfold whenE; rw [if_neg (fun h8 => h8 hl), if_neg (by intro h8; cases h8), if_pos (by rw [hle]; exact hno)]
      refine ⟨⟨g, mg, C, P, none, ev, now, til, beg, whole, dn, stp, rows, tk, M⟩, rfl, hX, ?_, ?_, S.big (B := [_]) (h2.takes [0, 1, 2, 3, 4, 5] (by decide))⟩
      · unfold whenA; rw [if_neg (by rw [hE]; decide)]
      · unfold whenV; rw [if_neg (by rw [hE]; decide), hE]
    · have h2 := H.absorbI (new := [_, _, _, _]) [0, 1, 2, 3] h
      have hE : whenE (TM.A ⟨g, mg, C, P, none, ev, now, til, beg, whole, dn, stp, rows, tk, M⟩) n = 0 := by
        unfold whenE; rw [if_neg (fun h8 => h8 hl), if_neg (by intro h8; cases h8), if_neg (by rw [hle]; intro h8; exact h8.elim (fun h => absurd h (Int.not_lt.2 hw1)) fun h => absurd h (Int.not_lt.2 hw2))]
      have hA : TM.A ⟨g, mg, C, P, none, ev, n, til, beg, whole, dn, stp, rows, tk, M⟩ = whenA (TM.A ⟨g, mg, C, P, none, ev, now, til, beg, whole, dn, stp, rows, tk, M⟩) n := by
        unfold whenA; rw [if_pos hE]; rfl
      refine ⟨⟨g, mg, C, P, none, ev, n, til, beg, whole, dn, stp, rows, tk, M⟩, rfl, ⟨by rw [hA]; exact hpi, hX.cur, hX.map⟩, hA, ?_, S.big (B := [_]) (h2.takes [0, 1, 2, 3, 4, 5] (by decide))⟩
      unfold whenV; rw [if_pos hE, hE, hle]; rfl
theorem done_x (hX : X.ok j) (w : World) (HS : S w [X.I]) : Calls Try.prog 17 #[.pointer (some ⟨X.g, 0, none⟩)] w fun e w' => ∃ Y : TM, Y.g = X.g ∧ Y.ok j ∧ Y.A = doneA X.A ∧ e = .returned (.int .i64 (doneE X.A)) ∧ S w' ([Y.I] ++ [Old w (fps [X.I])]) := by
  have H := X.open HS
  have hpi := hX.pi.done
  obtain ⟨g, mg, C, P, cu, ev, now, til, beg, whole, dn, stp, rows, tk, M⟩ := X
  cases whole with
  | true =>
    refine (done_n w (H.takes [0] (by decide))).mono ?_
    rintro e w' ⟨rfl, h⟩
    have h2 := H.absorbI (new := [_]) [0] h
    exact ⟨⟨g, mg, C, P, cu, ev, now, til, beg, true, dn, stp, rows, tk, M⟩, rfl, hX, rfl, rfl, S.big (B := [_]) (h2.takes [0, 1, 2, 3, 4, 5] (by decide))⟩
  | false =>
    refine (done_y w (H.takes [0] (by decide))).mono ?_
    rintro e w' ⟨rfl, h⟩
    have h2 := H.absorbI (new := [_]) [0] h
    exact ⟨⟨g, mg, C, P, cu, ev, now, til, beg, true, true, stp, rows, tk, M⟩, rfl, ⟨hpi, hX.cur, hX.map⟩, rfl, rfl, S.big (B := [_]) (h2.takes [0, 1, 2, 3, 4, 5] (by decide))⟩
theorem stop_x (hX : X.ok j) (w : World) (HS : S w [X.I]) : Calls Try.prog 18 #[.pointer (some ⟨X.g, 0, none⟩)] w fun e w' => ∃ Y : TM, Y.g = X.g ∧ Y.ok j ∧ Y.A = stopA X.A ∧ e = .returned (.int .i64 (stopE X.A)) ∧ S w' ([Y.I] ++ [Old w (fps [X.I])]) := by
  have H := X.open HS
  have hpi := hX.pi.stop
  obtain ⟨g, mg, C, P, cu, ev, now, til, beg, whole, dn, stp, rows, tk, M⟩ := X
  cases stp with
  | true =>
    refine (stop_n w (H.takes [0] (by decide))).mono ?_
    rintro e w' ⟨rfl, h⟩
    have h2 := H.absorbI (new := [_]) [0] h
    exact ⟨⟨g, mg, C, P, cu, ev, now, til, beg, whole, dn, true, rows, tk, M⟩, rfl, hX, rfl, rfl, S.big (B := [_]) (h2.takes [0, 1, 2, 3, 4, 5] (by decide))⟩
  | false =>
    refine (stop_y w (H.takes [0] (by decide))).mono ?_
    rintro e w' ⟨rfl, h⟩
    have h2 := H.absorbI (new := [_]) [0] h
    exact ⟨⟨g, mg, C, P, cu, ev, now, til, beg, whole, dn, true, rows, tk, M⟩, rfl, ⟨hpi, hX.cur, hX.map⟩, rfl, rfl, S.big (B := [_]) (h2.takes [0, 1, 2, 3, 4, 5] (by decide))⟩
theorem start_x (hX : X.ok j) (w : World) (HS : S w [X.I]) : Calls Try.prog 16 #[.pointer (some ⟨X.g, 0, none⟩)] w fun e w' => ∃ Y : TM, Y.g = X.g ∧ Y.ok j ∧ Y.A = startA X.A ∧ e = .returned (.int .i64 (startE X.A)) ∧ S w' ([Y.I] ++ [Old w (fps [X.I])]) := by
  have H := X.open HS
  have hpi := hX.pi.start
  have hrl := hX.rl
  have hr2 := hX.rows
  obtain ⟨g, mg, C, P, cu, ev, now, til, beg, whole, dn, stp, rows, tk, M⟩ := X
  cases stp with
  | false =>
    refine (start_n w (H.takes [0] (by decide))).mono ?_
    rintro e w' ⟨rfl, h⟩
    have h2 := H.absorbI (new := [_]) [0] h
    exact ⟨⟨g, mg, C, P, cu, ev, now, til, beg, whole, dn, false, rows, tk, M⟩, rfl, hX, rfl, rfl, S.big (B := [_]) (h2.takes [0, 1, 2, 3, 4, 5] (by decide))⟩
  | true =>
    refine (start_s rfl (by show rows.length ≤ 1000; exact Nat.le_trans hr2 (by decide)) (fun r hr => Nat.le_trans (hrl r hr) (by decide)) w (H.takes [0, 1, 2, 3] (by decide))).mono ?_
    rintro e w' ⟨rfl, h⟩
    have h2 := H.absorbI (new := [_, _, _, _]) [0, 1, 2, 3] h
    have hA : TM.A ⟨g, mg, C, P, cu, ev, now, 0, false, whole, false, false, rows, fun y => zeroT (tk y), M⟩ = startA (TM.A ⟨g, mg, C, P, cu, ev, now, til, beg, whole, dn, true, rows, tk, M⟩) := by
      refine PS.ext ?_ rfl rfl rfl rfl rfl rfl rfl
      show (lsOf rows).map (fun l => l.map fun y => zeroT (tk y)) = ((lsOf rows).map fun l => l.map tk).map fun l => l.map zeroT
      rw [List.map_map]
      exact List.map_congr_left fun l _ => by show _ = (l.map tk).map zeroT; rw [List.map_map]; rfl
    exact ⟨⟨g, mg, C, P, cu, ev, now, 0, false, whole, false, false, rows, fun y => zeroT (tk y), M⟩, rfl, ⟨by rw [hA]; exact hpi, hX.cur, hX.map⟩, hA, rfl, S.big (B := [_]) (h2.takes [0, 1, 2, 3, 4, 5] (by decide))⟩
end
end Go.Proofs.Ytibdlnjnomikjaa
namespace Go.Proofs.Ytibdlnjnomikjaa
open Go.RowKit

section
variable {j : Nat} {X : TM} {w : World} {n iv q : Int} {s : ByteArray}
theorem erase_idx : ∀ {l : List Nat} {k y : Nat}, l.Nodup → l[k]? = some y → l.erase y = l.eraseIdx k
  | [], k, y, _, h => by cases h
  | a :: l, 0, y, _, h => by
    cases h; simp
  | a :: l, k + 1, y, hn, h => by
    have h2 := List.nodup_cons.1 hn
    have hm : y ∈ l := List.mem_of_getElem? (show l[k]? = some y from h)
    have hne : a ≠ y := fun e => h2.1 (e ▸ hm)
    rw [List.erase_cons_tail (by simp [hne]), List.eraseIdx_cons_succ, erase_idx h2.2 (show l[k]? = some y from h)]
theorem map_eraseI {f : Nat → Tk} : ∀ (l : List Nat) (k : Nat), (l.map f).eraseIdx k = (l.eraseIdx k).map f
  | [], k => rfl
  | a :: l, 0 => rfl
  | a :: l, k + 1 => by show f a :: (l.map f).eraseIdx k = f a :: (l.eraseIdx k).map f; rw [map_eraseI l k]
theorem TM.ok.one (h : X.ok j) {i i' k k' y : Nat} {r r' : Ro Nat} (hi : X.rows[i]? = some r) (hk : r.l[k]? = some y) (hi' : X.rows[i']? = some r') (hk' : r'.l[k']? = some y) : i = i' ∧ k = k' := by
  have h1 := find_name h.pi.ti (X.at hi hk).1 (X.at hi hk).2
  have h2 := find_name h.pi.ti (X.at hi' hk').1 (X.at hi' hk').2
  rw [h1] at h2
  simp only [Option.some.injEq, Prod.mk.injEq] at h2
  exact ⟨h2.1, h2.2.1⟩
theorem map_upd_no {tk : Nat → Tk} {y : Nat} {a : Tk} {l : List Nat} (h : y ∉ l) : l.map (upd tk y a) = l.map tk := List.map_congr_left fun z hz => upd_ne fun e => h (e ▸ hz)
theorem TM.ok.rowNodup (h : X.ok j) {r : Ro Nat} (hr : r ∈ X.rows) : r.l.Nodup := by
  have h1 := h.nodup
  unfold adr at h1
  exact (List.pairwise_flatten.1 h1).1 r.l (List.mem_map.2 ⟨r, hr, rfl⟩)
theorem TM.ok.setT (h : X.ok j) {i k y : Nat} {r : Ro Nat} (hi : X.rows[i]? = some r) (hk : r.l[k]? = some y) (a : Tk) : ((lsOf X.rows).map fun l => l.map (upd X.tk y a)) = setP X.T i k a := by
  have hT := (X.at hi hk).1
  unfold setP
  rw [TI.getD hT]
  refine List.ext_getElem? fun m => ?_
  by_cases hm : m = i
  · subst hm
    rw [List.getElem?_set_self (List.getElem?_eq_some_iff.1 hT).1]
    unfold lsOf
    rw [List.getElem?_map, List.getElem?_map, hi]
    show some (r.l.map (upd X.tk y a)) = _
    congr 1
    refine List.ext_getElem? fun m2 => ?_
    by_cases h2 : m2 = k
    · subst h2
      rw [List.getElem?_set_self (by rw [List.length_map]; exact (List.getElem?_eq_some_iff.1 hk).1), List.getElem?_map, hk]
      show some (upd X.tk y a y) = _
      rw [upd_same]
    · rw [List.getElem?_set_ne (Ne.symm h2), List.getElem?_map, List.getElem?_map]
      cases hx : r.l[m2]? with
      | none => rfl
      | some x =>
        show some (upd X.tk y a x) = some (X.tk x)
        rw [upd_ne (fun e => h2 ((h.one hi (by rw [hx, e]) hi hk).2))]
  · rw [List.getElem?_set_ne (Ne.symm hm)]
    unfold TM.T lsOf
    simp only [List.getElem?_map]
    cases hq : X.rows[m]? with
    | none => rfl
    | some q2 =>
      show some (q2.l.map (upd X.tk y a)) = some (q2.l.map X.tk)
      rw [map_upd_no fun hy => by
        obtain ⟨k2, hk2⟩ := List.getElem?_of_mem hy
        exact hm (h.one hq hk2 hi hk).1]
theorem TM.ok.frontT (h : X.ok j) {i k y : Nat} {r : Ro Nat} (hi : X.rows[i]? = some r) (hk : r.l[k]? = some y) (a : Tk) : ((lsOf (X.rows.map (frontR y))).map fun l => l.map (upd X.tk y a)) = frontP X.T i k a := by
  have hT := (X.at hi hk).1
  have hy : y ∈ r.l := List.mem_of_getElem? hk
  have hnd := h.rowNodup (List.mem_of_getElem? hi)
  unfold frontP
  rw [TI.getD hT]
  refine List.ext_getElem? fun m => ?_
  by_cases hm : m = i
  · subst hm
    rw [List.getElem?_set_self (List.getElem?_eq_some_iff.1 hT).1]
    unfold lsOf
    rw [List.getElem?_map, List.getElem?_map, List.getElem?_map, hi]
    show some ((frontL y r.l).map (upd X.tk y a)) = _
    unfold frontL
    rw [if_pos hy, List.map_cons, upd_same, map_upd_no (fun h9 => by rw [List.Nodup.mem_erase_iff hnd] at h9; exact h9.1 rfl), erase_idx hnd hk, map_eraseI]
  · rw [List.getElem?_set_ne (Ne.symm hm)]
    unfold TM.T lsOf
    simp only [List.getElem?_map]
    cases hq : X.rows[m]? with
    | none => rfl
    | some q2 =>
      have hn : y ∉ q2.l := fun hy => by
        obtain ⟨k2, hk2⟩ := List.getElem?_of_mem hy
        exact hm (h.one hq hk2 hi hk).1
      show some ((frontL y q2.l).map (upd X.tk y a)) = some (q2.l.map X.tk)
      unfold frontL
      rw [if_neg hn, map_upd_no hn]
theorem TM.ok.mapUpd (h : X.ok j) {y : Nat} {a : Tk} (ha : a.name = (X.tk y).name) {rows : Rws} (hr : (adr rows).Perm (adr X.rows)) : ∀ s x, X.M s = some x ↔ x ∈ adr rows ∧ (upd X.tk y a x).name = s := fun s x => by
  rw [h.map s x, hr.mem_iff]
  by_cases e : x = y
  · subst e; rw [upd_same, ha]
  · rw [upd_ne e]
theorem fail_x (hX : X.ok j) (hj : j ≤ 1000) (w : World) (HS : S w [X.I]) : Calls Try.prog 14 #[.pointer (some ⟨X.g, 0, none⟩), .int .i64 n] w fun e w' => ∃ Y : TM, Y.g = X.g ∧ Y.ok (j + 1) ∧ Y.A = failA X.A n ∧ e = .returned (.int .i64 (failE X.A n)) ∧ S w' ([Y.I] ++ [Old w (fps [X.I])]) := by
  have H := X.open HS
  have hpi := hX.pi.fail (n := n)
  have hmono : X.ok (j + 1) := ⟨hX.pi.mono (Nat.le_succ _), hX.cur, hX.map⟩
  obtain ⟨g, mg, C, P, cu, ev, now, til, beg, whole, dn, stp, rows, tk, M⟩ := X
  cases cu with
  | none =>
    refine (fail_0 (n := n) w (H.takes [0] (by decide))).mono ?_
    rintro e w' ⟨rfl, h⟩
    have h2 := H.absorbI (new := [_]) [0] h
    have hE : failE (TM.A ⟨g, mg, C, P, none, ev, now, til, beg, whole, dn, stp, rows, tk, M⟩) n = if tellS now n = 0 then 8 else tellS now n := by
      unfold failE
      by_cases h9 : tellS now n = 0
      · rw [if_neg (fun h8 => h8 h9), if_pos h9]; rfl
      · exact (if_pos h9).trans ((if_neg h9).trans (tell_7 h9)).symm
    have hne : ¬ failE (TM.A ⟨g, mg, C, P, none, ev, now, til, beg, whole, dn, stp, rows, tk, M⟩) n = 0 := by
      rw [hE]; split
      · decide
      · rename_i h9; exact h9
    refine ⟨⟨g, mg, C, P, none, ev, now, til, beg, whole, dn, stp, rows, tk, M⟩, rfl, hmono, ?_, ?_, S.big (B := [_]) (h2.takes [0, 1, 2, 3, 4, 5] (by decide))⟩
    · unfold failA; rw [if_neg hne]
    · rw [hE]
  | some y =>
    have hy : y ∈ adr rows := hX.cur y rfl
    have hx0 := hX.pi.ti.trk (tk y) (by rw [show (TM.A ⟨g, mg, C, P, some y, ev, now, til, beg, whole, dn, stp, rows, tk, M⟩).T.flatten = (adr rows).map tk from TM.flat _]; exact List.mem_map.2 ⟨y, hy, rfl⟩)
    have hnow : 0 ≤ now := hX.pi.now
    obtain ⟨i, k, r, hi, hk, hpl⟩ := hX.place hy
    refine (fail_f (n := n) hy hx0.1 (by omega) hnow w (H.takes [0, 3] (by decide))).mono ?_
    rintro e w' (⟨hl, rfl, h⟩ | ⟨hl, rfl, h⟩)
    · have h2 := H.absorbI (new := [_, _]) [0, 3] h
      have hE : failE (TM.A ⟨g, mg, C, P, some y, ev, now, til, beg, whole, dn, stp, rows, tk, M⟩) n = 7 := if_pos hl
      refine ⟨⟨g, mg, C, P, some y, ev, now, til, beg, whole, dn, stp, rows, tk, M⟩, rfl, hmono, ?_, ?_, S.big (B := [_]) (h2.takes [0, 2, 3, 1, 4, 5] (by decide))⟩
      · unfold failA; rw [if_neg (by rw [hE]; decide)]
      · rw [hE, tell_7 hl]
    · have h2 := H.absorbI (new := [_, _]) [0, 3] h
      have hE : failE (TM.A ⟨g, mg, C, P, some y, ev, now, til, beg, whole, dn, stp, rows, tk, M⟩) n = 0 := by
        unfold failE; rw [if_neg (fun h8 => h8 hl), if_neg (by intro h8; cases h8)]
      have hA : TM.A ⟨g, mg, C, P, none, 0, n, til, beg, whole, dn, stp, rows, upd tk y (failT ev n (tk y)), M⟩ = failA (TM.A ⟨g, mg, C, P, some y, ev, now, til, beg, whole, dn, stp, rows, tk, M⟩) n := by
        unfold failA; rw [if_pos hE]
        show _ = match (PS.place (TM.A ⟨g, mg, C, P, some y, ev, now, til, beg, whole, dn, stp, rows, tk, M⟩) (tk y).name) with | some p => _ | none => _
        rw [hpl]
        exact PS.ext (hX.setT hi hk _) rfl rfl rfl rfl rfl rfl rfl
      refine ⟨⟨g, mg, C, P, none, 0, n, til, beg, whole, dn, stp, rows, upd tk y (failT ev n (tk y)), M⟩, rfl, ⟨by rw [hA]; exact hpi, fun y hy => (by cases hy), hX.mapUpd (a := failT ev n (tk y)) rfl (.refl _)⟩, hA, by rw [hE], S.big (B := [_]) (h2.takes [0, 2, 3, 1, 4, 5] (by decide))⟩
theorem answer_x (hX : X.ok j) (w : World) (HS : S w [X.I]) : Calls Try.prog 15 #[.pointer (some ⟨X.g, 0, none⟩), .int .i64 n, .int .i64 iv] w fun e w' => ∃ Y : TM, Y.g = X.g ∧ Y.ok (j + 1) ∧ Y.A = answerA X.A n iv ∧ e = .returned (.int .i64 (answerE X.A n iv)) ∧ S w' ([Y.I] ++ [Old w (fps [X.I])]) := by
  have H := X.open HS
  have hpi := hX.pi.answer (n := n) (iv := iv)
  have hmono : X.ok (j + 1) := ⟨hX.pi.mono (Nat.le_succ _), hX.cur, hX.map⟩
  have hrl := hX.rl
  have hr2 := hX.rows
  obtain ⟨g, mg, C, P, cu, ev, now, til, beg, whole, dn, stp, rows, tk, M⟩ := X
  cases cu with
  | none =>
    refine (answer_0 (n := n) (iv := iv) w (H.takes [0] (by decide))).mono ?_
    rintro e w' ⟨rfl, h⟩
    have h2 := H.absorbI (new := [_]) [0] h
    have hE : answerE (TM.A ⟨g, mg, C, P, none, ev, now, til, beg, whole, dn, stp, rows, tk, M⟩) n iv = if iv < 1 ∨ 100000000 < iv then 7 else if tellS now n = 0 then 8 else tellS now n := by
      unfold answerE
      by_cases h8 : iv < 1 ∨ 100000000 < iv
      · rw [if_pos h8, if_pos h8]
      · rw [if_neg h8, if_neg h8]
        by_cases h9 : tellS now n = 0
        · rw [if_neg (fun h8 => h8 h9), if_pos h9]; rfl
        · exact (if_pos h9).trans ((if_neg h9).trans (tell_7 h9)).symm
    have hne : ¬ answerE (TM.A ⟨g, mg, C, P, none, ev, now, til, beg, whole, dn, stp, rows, tk, M⟩) n iv = 0 := by
      rw [hE]; split
      · decide
      · split
        · decide
        · rename_i h9; exact h9
    refine ⟨⟨g, mg, C, P, none, ev, now, til, beg, whole, dn, stp, rows, tk, M⟩, rfl, hmono, ?_, ?_, S.big (B := [_]) (h2.takes [0, 1, 2, 3, 4, 5] (by decide))⟩
    · unfold answerA; rw [if_neg hne]
    · rw [hE]
  | some y =>
    have hy : y ∈ adr rows := hX.cur y rfl
    have hnow : 0 ≤ now := hX.pi.now
    obtain ⟨i, k, r, hi, hk, hpl⟩ := hX.place hy
    have hperm := adr_front y rows
    have hlen : (rows.map (frontR y)).length = rows.length := List.length_map ..
    refine (answer_s (n := n) (iv := iv) rfl (by show rows.length ≤ 1000; exact Nat.le_trans hr2 (by decide)) (fun r hr => Nat.le_trans (hrl r hr) (by decide)) hy hnow w (H.takes [0, 1, 2, 3] (by decide))).mono ?_
    rintro e w' (⟨hi9, rfl, h⟩ | ⟨hi1, hi2, hl, rfl, h⟩ | ⟨hi1, hi2, hl, he, rfl, h⟩ | ⟨hi1, hi2, hl, he, rfl, h⟩)
    · have h2 := H.absorbI (new := [_, _, _, _]) [0, 1, 2, 3] h
      have hE : answerE (TM.A ⟨g, mg, C, P, some y, ev, now, til, beg, whole, dn, stp, rows, tk, M⟩) n iv = 7 := if_pos hi9
      refine ⟨⟨g, mg, C, P, some y, ev, now, til, beg, whole, dn, stp, rows, tk, M⟩, rfl, hmono, ?_, ?_, S.big (B := [_]) (h2.takes [0, 1, 2, 3, 4, 5] (by decide))⟩
      · unfold answerA; rw [if_neg (by rw [hE]; decide)]
      · rw [hE]
    · have h2 := H.absorbI (new := [_, _, _, _]) [0, 1, 2, 3] h
      have hE : answerE (TM.A ⟨g, mg, C, P, some y, ev, now, til, beg, whole, dn, stp, rows, tk, M⟩) n iv = 7 := by
        unfold answerE; rw [if_neg (by omega)]; exact if_pos hl
      refine ⟨⟨g, mg, C, P, some y, ev, now, til, beg, whole, dn, stp, rows, tk, M⟩, rfl, hmono, ?_, ?_, S.big (B := [_]) (h2.takes [0, 1, 2, 3, 4, 5] (by decide))⟩
      · unfold answerA; rw [if_neg (by rw [hE]; decide)]
      · rw [hE, tell_7 hl]
    · have h2 := H.absorbI (new := [_, _, _, _]) [0, 1, 2, 3] h
      have hE : answerE (TM.A ⟨g, mg, C, P, some y, ev, now, til, beg, whole, dn, stp, rows, tk, M⟩) n iv = 0 := by
        unfold answerE; rw [if_neg (by omega), if_neg (fun h8 => h8 hl), if_neg (by intro h8; cases h8)]
      have ha : ansT ev (tk y) = ⟨(tk y).name, 0, 0, (tk y).ans, true⟩ := if_pos he
      have hA : TM.A ⟨g, mg, C, P, none, 0, n, til, beg, whole, dn, stp, rows.map (frontR y), upd tk y (ansT ev (tk y)), M⟩ = answerA (TM.A ⟨g, mg, C, P, some y, ev, now, til, beg, whole, dn, stp, rows, tk, M⟩) n iv := by
        unfold answerA; rw [if_pos hE]
        show _ = match (PS.place (TM.A ⟨g, mg, C, P, some y, ev, now, til, beg, whole, dn, stp, rows, tk, M⟩) (tk y).name) with | some p => _ | none => _
        rw [hpl]
        refine PS.ext (hX.frontT hi hk _) rfl rfl ?_ ?_ rfl ?_ rfl
        · show til = if ev = 2 then til else n + iv
          rw [if_pos he]
        · show beg = (beg || decide (ev = 1))
          subst he; simp
        · show dn = (dn && !decide (ev = 3))
          subst he; simp
      refine ⟨⟨g, mg, C, P, none, 0, n, til, beg, whole, dn, stp, rows.map (frontR y), upd tk y (ansT ev (tk y)), M⟩, rfl, ⟨by rw [hA]; exact hpi, fun y hy => (by cases hy), hX.mapUpd (by rw [ha]) hperm⟩, hA, by rw [hE], S.big (B := [_]) ?_⟩
      unfold TM.L
      dsimp only
      rw [hlen, ha]
      exact h2.takes [0, 1, 2, 3, 4, 5] (by decide)
    · have h2 := H.absorbI (new := [_, _, _, _]) [0, 1, 2, 3] h
      have hE : answerE (TM.A ⟨g, mg, C, P, some y, ev, now, til, beg, whole, dn, stp, rows, tk, M⟩) n iv = 0 := by
        unfold answerE; rw [if_neg (by omega), if_neg (fun h8 => h8 hl), if_neg (by intro h8; cases h8)]
      have ha : ansT ev (tk y) = ⟨(tk y).name, 0, 0, true, false⟩ := if_neg he
      have hA : TM.A ⟨g, mg, C, P, none, 0, n, n + iv, beg || decide (ev = 1), whole, dn && !decide (ev = 3), stp, rows.map (frontR y), upd tk y (ansT ev (tk y)), M⟩ = answerA (TM.A ⟨g, mg, C, P, some y, ev, now, til, beg, whole, dn, stp, rows, tk, M⟩) n iv := by
        unfold answerA; rw [if_pos hE]
        show _ = match (PS.place (TM.A ⟨g, mg, C, P, some y, ev, now, til, beg, whole, dn, stp, rows, tk, M⟩) (tk y).name) with | some p => _ | none => _
        rw [hpl]
        refine PS.ext (hX.frontT hi hk _) rfl rfl ?_ rfl rfl rfl rfl
        show n + iv = if ev = 2 then til else n + iv
        rw [if_neg he]
      refine ⟨⟨g, mg, C, P, none, 0, n, n + iv, beg || decide (ev = 1), whole, dn && !decide (ev = 3), stp, rows.map (frontR y), upd tk y (ansT ev (tk y)), M⟩, rfl, ⟨by rw [hA]; exact hpi, fun y hy => (by cases hy), hX.mapUpd (by rw [ha]) hperm⟩, hA, by rw [hE], S.big (B := [_]) ?_⟩
      unfold TM.L
      dsimp only
      rw [hlen, ha]
      exact h2.takes [0, 1, 2, 3, 4, 5] (by decide)
theorem stV_fl (l : List ByteArray) : stV l = fl strL l := strs_fl l
theorem order_x (hX : X.ok j) (w : World) (HS : S w [X.I]) : Calls Try.prog 12 #[.pointer (some ⟨X.g, 0, none⟩), .int .i64 q] w fun e w' => ∃ p c, e = .returned (.tuple #[.slice p (orderV X.A q).length c, .int .i64 (orderE X.A q)]) ∧ S w' ([Rw 9 1 p (orderV X.A q).length c (fl strL (orderV X.A q)), X.I] ++ [Old w (fps [X.I])]) := by
  have H := X.open HS
  have hrl := hX.rl
  have hr2 := hX.rows
  have hTl : X.A.T.length = X.rows.length := by show ((lsOf X.rows).map _).length = _; rw [List.length_map, ls_len]
  refine (order_s (q := q) rfl (by omega) (fun r hr => Nat.le_trans (hrl r hr) (by decide)) w (H.takes [0, 1, 2, 3] (by decide))).mono ?_
  rintro e w' (⟨hq, rfl, h⟩ | ⟨m, r, p, c, rfl, hr, rfl, h⟩)
  · have h2 := H.absorbI (new := [_, _, _, _]) [0, 1, 2, 3] h
    have hE : orderE X.A q = 7 := if_pos (by omega)
    have hV : orderV X.A q = [] := if_neg (by rw [hE]; decide)
    have h3 : S w' ([X.I] ++ [Old w (fps [X.I])]) := S.big (B := [_]) (h2.takes [0, 1, 2, 3, 4, 5] (by decide))
    exact ⟨none, 0, by rw [hE, hV]; rfl, by rw [hV]; exact h3.nilFl 9 1 strL⟩
  · have h2 := H.absorbI (new := [_, _, _, _, _]) [0, 1, 2, 3] h
    have hml := (List.getElem?_eq_some_iff.1 hr).1
    have hE : orderE X.A m = 0 := if_neg (by omega)
    have hT : X.A.T[m]? = some (r.l.map X.tk) := by
      show ((X.rows.map (·.l)).map fun l => l.map X.tk)[m]? = _
      rw [List.getElem?_map, List.getElem?_map, hr]; rfl
    have hV : orderV X.A m = namesT X.tk r.l := by
      unfold orderV
      rw [if_pos hE, Int.toNat_natCast, TI.getD hT, List.map_map]; rfl
    have hlen : (namesT X.tk r.l).length = r.l.length := List.length_map ..
    have h3 : S w' ([X.I] ++ [Rw 9 1 p r.l.length c (stV (namesT X.tk r.l)), Old w (fps [X.I])]) := S.big (B := [_, _]) (h2.takes [1, 2, 3, 4, 5, 0, 6] (by decide))
    exact ⟨p, c, by rw [hE, hV, hlen], by rw [hV, hlen, ← stV_fl]; exact h3.takes [1, 0, 2] (by decide)⟩
theorem failed_x (hX : X.ok j) (w : World) (HS : S w [X.I]) : Calls Try.prog 51 #[.pointer (some ⟨X.g, 0, none⟩), .string s] w fun e w' => e = .returned (.tuple #[.int .i64 (failedV X.A s), .int .i64 (failedE X.A s)]) ∧ S w' ([X.I] ++ [Old w (fps [X.I])]) := by
  have H := X.open HS
  refine (failed_s (s := s) (fun s x => (hX.map s x).1) w (H.takes [0, 3, 4] (by decide))).mono ?_
  rintro e w' ⟨rfl, h⟩
  have h2 := H.absorbI (new := [_, _, _]) [0, 3, 4] h
  refine ⟨?_, S.big (B := [_]) (h2.takes [0, 3, 4, 1, 2, 5] (by decide))⟩
  unfold failedV failedE
  by_cases ht : textS s = false
  · rw [if_pos ht, if_pos ht, if_pos ht, if_neg (by decide)]
  · rw [if_neg ht, if_neg ht, if_neg ht]
    cases hM : X.M s with
    | none => rw [hX.place_none hM]; rfl
    | some x =>
      obtain ⟨hx, e⟩ := (hX.map s x).1 hM
      obtain ⟨i, k, r, _, _, hpl⟩ := hX.place hx
      rw [e] at hpl
      rw [hpl]; rfl
theorem add_x (hX : X.ok j) (w : World) (HS : S w [X.I]) : Calls Try.prog 45 #[.pointer (some ⟨X.g, 0, none⟩), .int .i64 q, .string s] w fun e w' => ∃ Y : TM, Y.g = X.g ∧ Y.ok j ∧ Y.A = addA X.A q s ∧ e = .returned (.int .i64 (addE X.A q s)) ∧ S w' ([Y.I] ++ [Old w (fps [X.I])]) := by
  have H := X.open HS
  unfold TM.L at H
  rw [rosV_fl] at H
  have hpi := hX.pi.add (i := q) (s := s)
  have hrl := hX.rl
  have hr2 := hX.rows
  have hTl : X.A.T.length = X.rows.length := by show ((lsOf X.rows).map _).length = _; rw [List.length_map, ls_len]
  have hf : ∀ {w' : World}, S w' ([Ob X.g (.cells #[cuV X.cu, .int .i64 X.ev, .slice X.P X.rows.length X.C, .map (some X.mg), .int .i64 X.now, .int .i64 X.til, .bool X.beg, .bool X.whole, .bool X.dn, .bool X.stp] 64 (0, 0)), Rw 68 1 X.P X.rows.length X.C (fl rowL X.rows), RowsI 59 1 ptL X.rows, Fam 71 Tk.cells (adr X.rows) X.tk, Mp Value.string (fun x : Nat => Value.pointer (some ⟨x, 0, none⟩)) okT X.mg X.M] ++ [Old w (fps [X.I])]) → S w' ([X.I] ++ [Old w (fps [X.I])]) := fun {w'} h => by
    refine S.big (B := [_]) ?_
    unfold TM.L; rw [rosV_fl]; exact h
  by_cases hq : q < 0 ∨ (X.rows.length : Int) < q
  · refine (add_e (s := s) hq w (H.takes [0, 1, 2, 3, 4] (by decide))).mono ?_
    rintro e w' ⟨rfl, h⟩
    have h2 := H.absorbI (new := [_, _, _, _, _]) [0, 1, 2, 3, 4] h
    have hE : addE X.A q s = if textS s = false then 1 else 7 := by
      unfold addE
      by_cases ht : textS s = false
      · rw [if_pos ht, if_pos ht]
      · rw [if_neg ht, if_neg ht, if_pos (by omega)]
    have hne : ¬ addE X.A q s = 0 := by rw [hE]; split <;> decide
    refine ⟨X, rfl, hX, ?_, by rw [hE], hf (h2.takes [0, 1, 2, 3, 4, 5] (by decide))⟩
    unfold addA; rw [if_neg hne]
  · obtain ⟨m, rfl⟩ : ∃ m : Nat, q = (m : Int) := ⟨q.toNat, by omega⟩
    refine (add_k (s := s) (m := m) (by omega) hr2 hrl w (H.takes [0, 1, 2, 3, 4] (by decide))).mono ?_
    rintro e w' (⟨ht, rfl, h⟩ | ⟨ht, ⟨x, hM⟩, rfl, h⟩ | ⟨ht, hM, hm, rfl, h⟩ | ⟨ht, hM, hm, gx, P', C', rows', hgx, hr', rfl, h⟩)
    · have h2 := H.absorbI (new := [_, _, _, _, _]) [0, 1, 2, 3, 4] h
      have hE : addE X.A m s = 1 := if_pos ht
      exact ⟨X, rfl, hX, (if_neg (by rw [hE]; decide)).symm, by rw [hE], hf (h2.takes [0, 1, 2, 3, 4, 5] (by decide))⟩
    · have h2 := H.absorbI (new := [_, _, _, _, _]) [0, 1, 2, 3, 4] h
      obtain ⟨hx, e⟩ := (hX.map s x).1 hM
      obtain ⟨i, k, r, _, _, hpl⟩ := hX.place hx
      rw [e] at hpl
      have hE : addE X.A m s = 6 := by
        unfold addE; rw [if_neg (by rw [ht]; decide), if_neg (by omega), if_pos (by rw [hpl]; simp)]
      exact ⟨X, rfl, hX, (if_neg (by rw [hE]; decide)).symm, by rw [hE], hf (h2.takes [0, 1, 2, 3, 4, 5] (by decide))⟩
    · have h2 := H.absorbI (new := [_, _, _, _, _]) [0, 1, 2, 3, 4] h
      have hpl := hX.place_none hM
      have hE : addE X.A m s = 4 := by
        unfold addE; rw [if_neg (by rw [ht]; decide), if_neg (by omega), if_neg (by rw [hpl]; simp)]
        refine if_pos ?_
        rcases hm with hm | ⟨r, hr, hl⟩
        · exact .inl (by omega)
        · have hml := (List.getElem?_eq_some_iff.1 hr).1
          have hT : X.A.T[m]? = some (r.l.map X.tk) := by
            show ((X.rows.map (·.l)).map fun l => l.map X.tk)[m]? = _
            rw [List.getElem?_map, List.getElem?_map, hr]; rfl
          exact .inr ⟨by omega, by rw [Int.toNat_natCast, TI.getD hT, List.length_map]; exact hl⟩
      exact ⟨X, rfl, hX, (if_neg (by rw [hE]; decide)).symm, by rw [hE], hf (h2.takes [0, 1, 2, 3, 4, 5] (by decide))⟩
    · have h2 := H.absorbI (new := [_, _, _, _, _]) [0, 1, 2, 3, 4] h
      have hpl := hX.place_none hM
      have hE : addE X.A m s = 0 := by
        unfold addE; rw [if_neg (by rw [ht]; decide), if_neg (by omega), if_neg (by rw [hpl]; simp)]
        refine if_neg ?_
        rintro (h9 | ⟨h9, h8⟩)
        · omega
        · rcases hr' with ⟨hml, _⟩ | ⟨r, r', hr, hl, _⟩
          · omega
          · have hT : X.A.T[m]? = some (r.l.map X.tk) := by
              show ((X.rows.map (·.l)).map fun l => l.map X.tk)[m]? = _
              rw [List.getElem?_map, List.getElem?_map, hr]; rfl
            rw [Int.toNat_natCast, TI.getD hT, List.length_map] at h8; exact hl h8
      have hmap : ∀ (l : List Nat), (∀ y ∈ l, y ∈ adr X.rows) → l.map (upd X.tk gx (newTk s)) = l.map X.tk := fun l hl => map_upd_no fun h => hgx (hl gx h)
      have hold : ((lsOf X.rows).map fun l => l.map (upd X.tk gx (newTk s))) = X.T := List.map_congr_left fun l hl => hmap l fun y hy => List.mem_flatten.2 ⟨l, hl, hy⟩
      have hadr : (gx :: adr X.rows).Perm (adr rows') := by
        rcases hr' with ⟨hml, r', rfl, hl⟩ | ⟨r, r', hr, hl, rfl, hl2⟩
        · rw [adr_snoc, hl]; exact (List.perm_append_singleton _ _).symm
        · obtain ⟨p1, c1, l1⟩ := r'
          subst hl2; exact adr_set hr
      have hT : ((lsOf rows').map fun l => l.map (upd X.tk gx (newTk s))) = if (m : Int) = X.A.T.length then X.A.T ++ [[newTk s]] else X.A.T.set (m : Int).toNat (X.A.T.getD (m : Int).toNat [] ++ [newTk s]) := by
        rcases hr' with ⟨hml, r', rfl, hl⟩ | ⟨r, r', hr, hl, rfl, hl2⟩
        · rw [if_pos (by omega)]
          unfold lsOf at hold ⊢
          rw [List.map_append, List.map_append, hold]
          show X.T ++ [r'.l.map (upd X.tk gx (newTk s))] = _
          rw [hl]; show X.T ++ [[upd X.tk gx (newTk s) gx]] = _; rw [upd_same]; rfl
        · have hml := (List.getElem?_eq_some_iff.1 hr).1
          have hT : X.A.T[m]? = some (r.l.map X.tk) := by
            show ((X.rows.map (·.l)).map fun l => l.map X.tk)[m]? = _
            rw [List.getElem?_map, List.getElem?_map, hr]; rfl
          rw [if_neg (by omega), Int.toNat_natCast, TI.getD hT]
          unfold lsOf at hold ⊢
          rw [List.map_set, List.map_set, hold]
          show X.T.set m (r'.l.map (upd X.tk gx (newTk s))) = _
          rw [hl2, List.map_append, hmap r.l fun y hy => mem_adr_row (List.mem_of_getElem? hr) hy]
          show X.T.set m (r.l.map X.tk ++ [upd X.tk gx (newTk s) gx]) = _
          rw [upd_same]; rfl
      have hA : TM.A ⟨X.g, X.mg, C', P', X.cu, X.ev, X.now, X.til, X.beg, X.whole, X.dn, X.stp, rows', upd X.tk gx (newTk s), upM X.M s gx⟩ = addA X.A m s := by
        unfold addA; rw [if_pos hE]
        refine PS.ext hT rfl ?_ rfl rfl rfl rfl rfl
        show (X.cu.map fun y => ((upd X.tk gx (newTk s) y).name, X.ev)) = X.cu.map fun y => ((X.tk y).name, X.ev)
        cases hc : X.cu with
        | none => rfl
        | some y =>
          show some ((upd X.tk gx (newTk s) y).name, X.ev) = some ((X.tk y).name, X.ev)
          rw [upd_ne (fun e => hgx (by rw [← e]; exact hX.cur y hc))]
      refine ⟨⟨X.g, X.mg, C', P', X.cu, X.ev, X.now, X.til, X.beg, X.whole, X.dn, X.stp, rows', upd X.tk gx (newTk s), upM X.M s gx⟩, rfl, ⟨by rw [hA]; exact hpi, fun y hy => hadr.mem_iff.1 (List.mem_cons_of_mem _ (hX.cur y hy)), fun s2 x => ?_⟩, hA, by rw [hE], S.big (B := [_]) ?_⟩
      · rw [← hadr.mem_iff (a := x)]
        by_cases e : s2 = s
        · subst e
          show upM X.M s2 gx s2 = some x ↔ _
          rw [show upM X.M s2 gx s2 = some gx from if_pos rfl]
          constructor
          · intro h9; cases h9
            exact ⟨List.mem_cons_self .., by show (upd X.tk gx (newTk s2) gx).name = s2; rw [upd_same]; rfl⟩
          · rintro ⟨h9, h8⟩
            rcases List.mem_cons.1 h9 with rfl | h9
            · rfl
            · have hne : ¬ x = gx := fun e => hgx (e ▸ h9)
              have h8' : (upd X.tk gx (newTk s2) x).name = s2 := h8
              rw [upd_ne hne] at h8'
              have := (hX.map s2 x).2 ⟨h9, h8'⟩
              rw [hM] at this; cases this
        · show upM X.M s gx s2 = some x ↔ _
          rw [show upM X.M s gx s2 = X.M s2 from if_neg e, hX.map s2 x]
          show _ ↔ _ ∧ (upd X.tk gx (newTk s) x).name = s2
          constructor
          · rintro ⟨h9, h8⟩
            have hne : ¬ x = gx := fun e => hgx (e ▸ h9)
            exact ⟨List.mem_cons_of_mem _ h9, by rw [upd_ne hne]; exact h8⟩
          · rintro ⟨h9, h8⟩
            rcases List.mem_cons.1 h9 with rfl | h9
            · rw [upd_same] at h8; exact absurd h8.symm e
            · have hne : ¬ x = gx := fun e => hgx (e ▸ h9)
              rw [upd_ne hne] at h8; exact ⟨h9, h8⟩
      · unfold TM.L; rw [rosV_fl]; exact h2.takes [0, 1, 2, 3, 4, 5] (by decide)
end
end Go.Proofs.Ytibdlnjnomikjaa
namespace Go.Proofs.Ytibdlnjnomikjaa
open Go.RowKit

structure RT where
  g : Nat
  C : Nat
  P : Option Addr
  rs : List (Ro Tk)
  now : Int
  und : Bool
  nm : ByteArray
  ev : Int
  beg : Bool
  who : Bool
  dne : Bool
  stp : Bool
  hol : Int
def RT.L (X : RT) : List Item := [Ob X.g (.cells #[.slice X.P X.rs.length X.C, .int .i64 X.now, .bool X.und, .string X.nm, .int .i64 X.ev, .bool X.beg, .bool X.who, .bool X.dne, .bool X.stp, .int .i64 X.hol] 84 (0, 0)), Rw 85 1 X.P X.rs.length X.C (fl rowL X.rs), RowsI 87 5 tkL X.rs]
def RT.I (X : RT) : Item := Big X.L
def RT.A (X : RT) : PS := RPS X.rs X.now X.und X.nm X.ev X.beg X.who X.dne X.stp X.hol
theorem RT.open (X : RT) {w : World} (h : S w [X.I]) : S w X.L := by
  have h2 : S w (X.L ++ []) := S.unbig h
  rwa [List.append_nil] at h2
theorem RT.shut (X Y : RT) {w w' : World} (h : S w' (Y.L ++ [Old w (fps X.L)])) : S w' ([Y.I] ++ [Old w (fps [X.I])]) := by
  rw [show fps [X.I] = fps X.L from fps_big]
  exact S.big (B := [_]) h
section
variable {j : Nat} {X : RT} {w : World} {n iv q : Int} {s : ByteArray}
theorem PI.rs (h : PI j X.A) : X.rs.length ≤ 20 := by
  have := h.ti.rl.2
  have e : X.A.T.length = X.rs.length := List.length_map ..
  omega
theorem PI.rsl (h : PI j X.A) : ∀ r ∈ X.rs, r.l.length ≤ 20 := fun r hr => (h.ti.lens r.l (List.mem_map.2 ⟨r, hr, rfl⟩)).2
theorem PI.rtk (h : PI j X.A) : ∀ r ∈ X.rs, ∀ x ∈ r.l, 0 ≤ x.failed ∧ x.failed ≤ j ∧ 0 ≤ x.after := fun r hr x hx => h.ti.trk x (List.mem_flatten.2 ⟨r.l, List.mem_map.2 ⟨r, hr, rfl⟩, hx⟩)
theorem PI.rpl (h : PI j X.A) : X.und = true → (RPS X.rs X.now X.und X.nm X.ev X.beg X.who X.dne X.stp X.hol).place X.nm ≠ none := fun hu => by
  obtain ⟨i, k, r, x, _, _, _, h4⟩ := h.place (c := (X.nm, X.ev)) (by show (if X.und = true then _ else _) = _; rw [if_pos hu])
  intro h9
  have h8 : X.A.place X.nm = none := h9
  rw [h8] at h4; cases h4
theorem PI.rw3 (h : PI j X.A) : X.und = true → X.ev = 3 → (X.who || X.dne) = true := fun hu he => h.d3 (X.nm, X.ev) (by show (if X.und = true then _ else _) = _; rw [if_pos hu]) he
theorem PI.rne (h : PI j X.A) : flatT 0 (X.rs.map fun r => r.l) ≠ [] := fun h9 => by
  have h1 := h.ti.rl.1
  have h2 : (flatT 0 X.A.T).map (fun p => p.2.2) = X.A.T.flatten := flatT_snd _ _
  rw [show flatT 0 X.A.T = [] from h9] at h2
  obtain ⟨r, hr⟩ : ∃ r, X.A.T[0]? = some r := ⟨_, List.getElem?_eq_getElem (by omega)⟩
  have h3 := (h.ti.lens r (List.mem_of_getElem? hr)).1
  obtain ⟨x, hx⟩ : ∃ x, r[0]? = some x := ⟨_, List.getElem?_eq_getElem (by omega)⟩
  have h4 := flat_mem hr hx
  rw [← h2] at h4; cases h4
theorem next_rx (hX : PI j X.A) (w : World) (HS : S w [X.I]) : Calls Try.prog 48 #[.pointer (some ⟨X.g, 0, none⟩), .int .i64 n] w fun e w' => ∃ Y : RT, Y.g = X.g ∧ PI j Y.A ∧ Y.A = nextA X.A n ∧ e = .returned (.tuple #[.agg #[.int .i64 (nextV X.A n).1, .int .i64 (nextV X.A n).2.1, .int .i64 (nextV X.A n).2.2.1, .int .i64 (nextV X.A n).2.2.2], .int .i64 (nextE X.A n)]) ∧ S w' ([Y.I] ++ [Old w (fps [X.I])]) := by
  refine (next_R hX.rs hX.rsl hX.now w (X.open HS)).mono ?_
  rintro e w' ⟨P', C', rs', now', und', nm', ev', beg', who', dne', stp', hol', hA, rfl, h⟩
  refine ⟨⟨X.g, C', P', rs', now', und', nm', ev', beg', who', dne', stp', hol'⟩, rfl, ?_, hA, rfl, RT.shut X ⟨X.g, C', P', rs', now', und', nm', ev', beg', who', dne', stp', hol'⟩ h⟩
  show PI j (RPS rs' now' und' nm' ev' beg' who' dne' stp' hol')
  rw [hA]; exact hX.next
theorem when_rx (hX : PI j X.A) (w : World) (HS : S w [X.I]) : Calls Try.prog 47 #[.pointer (some ⟨X.g, 0, none⟩), .int .i64 n] w fun e w' => ∃ Y : RT, Y.g = X.g ∧ PI j Y.A ∧ Y.A = whenA X.A n ∧ e = .returned (.tuple #[.int .i64 (whenV X.A n), .int .i64 (whenE X.A n)]) ∧ S w' ([Y.I] ++ [Old w (fps [X.I])]) := by
  refine (when_R hX.rs hX.rsl hX.now ⟨hX.til, fun r hr x hx => (hX.rtk r hr x hx).2.2⟩ hX.rne w (X.open HS)).mono ?_
  rintro e w' ⟨P', C', rs', now', und', nm', ev', beg', who', dne', stp', hol', hA, rfl, h⟩
  refine ⟨⟨X.g, C', P', rs', now', und', nm', ev', beg', who', dne', stp', hol'⟩, rfl, ?_, hA, rfl, RT.shut X ⟨X.g, C', P', rs', now', und', nm', ev', beg', who', dne', stp', hol'⟩ h⟩
  show PI j (RPS rs' now' und' nm' ev' beg' who' dne' stp' hol')
  rw [hA]; exact hX.when
theorem answer_rx (hX : PI j X.A) (w : World) (HS : S w [X.I]) : Calls Try.prog 40 #[.pointer (some ⟨X.g, 0, none⟩), .int .i64 n, .int .i64 iv] w fun e w' => ∃ Y : RT, Y.g = X.g ∧ PI (j + 1) Y.A ∧ Y.A = answerA X.A n iv ∧ e = .returned (.int .i64 (answerE X.A n iv)) ∧ S w' ([Y.I] ++ [Old w (fps [X.I])]) := by
  refine (answer_R hX.rs hX.rsl hX.now hX.rpl hX.rw3 w (X.open HS)).mono ?_
  rintro e w' ⟨P', C', rs', now', und', nm', ev', beg', who', dne', stp', hol', hA, rfl, h⟩
  refine ⟨⟨X.g, C', P', rs', now', und', nm', ev', beg', who', dne', stp', hol'⟩, rfl, ?_, hA, rfl, RT.shut X ⟨X.g, C', P', rs', now', und', nm', ev', beg', who', dne', stp', hol'⟩ h⟩
  show PI (j + 1) (RPS rs' now' und' nm' ev' beg' who' dne' stp' hol')
  rw [hA]; exact hX.answer
theorem fail_rx (hX : PI j X.A) (hj : j ≤ 1000) (w : World) (HS : S w [X.I]) : Calls Try.prog 41 #[.pointer (some ⟨X.g, 0, none⟩), .int .i64 n] w fun e w' => ∃ Y : RT, Y.g = X.g ∧ PI (j + 1) Y.A ∧ Y.A = failA X.A n ∧ e = .returned (.int .i64 (failE X.A n)) ∧ S w' ([Y.I] ++ [Old w (fps [X.I])]) := by
  refine (fail_R hX.rs hX.rsl hX.now (fun r hr x hx => ⟨(hX.rtk r hr x hx).1, by have := (hX.rtk r hr x hx).2.1; omega⟩) hX.rpl w (X.open HS)).mono ?_
  rintro e w' ⟨P', C', rs', now', und', nm', ev', beg', who', dne', stp', hol', hA, rfl, h⟩
  refine ⟨⟨X.g, C', P', rs', now', und', nm', ev', beg', who', dne', stp', hol'⟩, rfl, ?_, hA, rfl, RT.shut X ⟨X.g, C', P', rs', now', und', nm', ev', beg', who', dne', stp', hol'⟩ h⟩
  show PI (j + 1) (RPS rs' now' und' nm' ev' beg' who' dne' stp' hol')
  rw [hA]; exact hX.fail
theorem done_rx (hX : PI j X.A) (w : World) (HS : S w [X.I]) : Calls Try.prog 42 #[.pointer (some ⟨X.g, 0, none⟩)] w fun e w' => ∃ Y : RT, Y.g = X.g ∧ PI j Y.A ∧ Y.A = doneA X.A ∧ e = .returned (.int .i64 (doneE X.A)) ∧ S w' ([Y.I] ++ [Old w (fps [X.I])]) := by
  refine (done_R hX.rs hX.rsl  w (X.open HS)).mono ?_
  rintro e w' ⟨P', C', rs', now', und', nm', ev', beg', who', dne', stp', hol', hA, rfl, h⟩
  refine ⟨⟨X.g, C', P', rs', now', und', nm', ev', beg', who', dne', stp', hol'⟩, rfl, ?_, hA, rfl, RT.shut X ⟨X.g, C', P', rs', now', und', nm', ev', beg', who', dne', stp', hol'⟩ h⟩
  show PI j (RPS rs' now' und' nm' ev' beg' who' dne' stp' hol')
  rw [hA]; exact hX.done
theorem stop_rx (hX : PI j X.A) (w : World) (HS : S w [X.I]) : Calls Try.prog 43 #[.pointer (some ⟨X.g, 0, none⟩)] w fun e w' => ∃ Y : RT, Y.g = X.g ∧ PI j Y.A ∧ Y.A = stopA X.A ∧ e = .returned (.int .i64 (stopE X.A)) ∧ S w' ([Y.I] ++ [Old w (fps [X.I])]) := by
  refine (stop_R hX.rs hX.rsl  w (X.open HS)).mono ?_
  rintro e w' ⟨P', C', rs', now', und', nm', ev', beg', who', dne', stp', hol', hA, rfl, h⟩
  refine ⟨⟨X.g, C', P', rs', now', und', nm', ev', beg', who', dne', stp', hol'⟩, rfl, ?_, hA, rfl, RT.shut X ⟨X.g, C', P', rs', now', und', nm', ev', beg', who', dne', stp', hol'⟩ h⟩
  show PI j (RPS rs' now' und' nm' ev' beg' who' dne' stp' hol')
  rw [hA]; exact hX.stop
theorem start_rx (hX : PI j X.A) (w : World) (HS : S w [X.I]) : Calls Try.prog 44 #[.pointer (some ⟨X.g, 0, none⟩)] w fun e w' => ∃ Y : RT, Y.g = X.g ∧ PI j Y.A ∧ Y.A = startA X.A ∧ e = .returned (.int .i64 (startE X.A)) ∧ S w' ([Y.I] ++ [Old w (fps [X.I])]) := by
  refine (start_R hX.rs hX.rsl  w (X.open HS)).mono ?_
  rintro e w' ⟨P', C', rs', now', und', nm', ev', beg', who', dne', stp', hol', hA, rfl, h⟩
  refine ⟨⟨X.g, C', P', rs', now', und', nm', ev', beg', who', dne', stp', hol'⟩, rfl, ?_, hA, rfl, RT.shut X ⟨X.g, C', P', rs', now', und', nm', ev', beg', who', dne', stp', hol'⟩ h⟩
  show PI j (RPS rs' now' und' nm' ev' beg' who' dne' stp' hol')
  rw [hA]; exact hX.start
theorem add_rx (hX : PI j X.A) (w : World) (HS : S w [X.I]) : Calls Try.prog 46 #[.pointer (some ⟨X.g, 0, none⟩), .int .i64 q, .string s] w fun e w' => ∃ Y : RT, Y.g = X.g ∧ PI j Y.A ∧ Y.A = addA X.A q s ∧ e = .returned (.int .i64 (addE X.A q s)) ∧ S w' ([Y.I] ++ [Old w (fps [X.I])]) := by
  have hTl : X.A.T.length = X.rs.length := List.length_map ..
  by_cases hq : q < 0 ∨ (X.rs.length : Int) < q
  · refine (add_Re (s := s) hX.rs hX.rsl hq w (X.open HS)).mono ?_
    rintro e w' ⟨rfl, h⟩
    have hE : addE X.A q s = if textS s = false then 1 else 7 := by
      unfold addE
      by_cases ht : textS s = false
      · rw [if_pos ht, if_pos ht]
      · rw [if_neg ht, if_neg ht, if_pos (by omega)]
    have hne : ¬ addE X.A q s = 0 := by rw [hE]; split <;> decide
    refine ⟨X, rfl, hX, ?_, by rw [hE], RT.shut X X h⟩
    unfold addA; rw [if_neg hne]
  · obtain ⟨m, rfl⟩ : ∃ m : Nat, q = (m : Int) := ⟨q.toNat, by omega⟩
    refine (add_Rk (s := s) (m := m) hX.rs hX.rsl (by omega) w (X.open HS)).mono ?_
    rintro e w' ⟨P', C', rs', now', und', nm', ev', beg', who', dne', stp', hol', hA, rfl, h⟩
    refine ⟨⟨X.g, C', P', rs', now', und', nm', ev', beg', who', dne', stp', hol'⟩, rfl, ?_, hA, rfl, RT.shut X ⟨X.g, C', P', rs', now', und', nm', ev', beg', who', dne', stp', hol'⟩ h⟩
    show PI j (RPS rs' now' und' nm' ev' beg' who' dne' stp' hol')
    rw [hA]; exact hX.add
theorem tiers_rx (hX : PI j X.A) (w : World) (HS : S w [X.I]) : Calls Try.prog 49 #[.pointer (some ⟨X.g, 0, none⟩)] w fun e w' => e = .returned (.int .i64 (X.A.T.length : Int)) ∧ S w' ([X.I] ++ [Old w (fps [X.I])]) := by
  have hTl : X.A.T.length = X.rs.length := List.length_map ..
  refine (tiers_R hX.rs hX.rsl w (X.open HS)).mono ?_
  rintro e w' ⟨rfl, h⟩
  exact ⟨by rw [hTl], RT.shut X X h⟩
theorem failed_rx (hX : PI j X.A) (w : World) (HS : S w [X.I]) : Calls Try.prog 52 #[.pointer (some ⟨X.g, 0, none⟩), .string s] w fun e w' => e = .returned (.tuple #[.int .i64 (failedV X.A s), .int .i64 (failedE X.A s)]) ∧ S w' ([X.I] ++ [Old w (fps [X.I])]) := by
  refine (failed_R hX.rs hX.rsl w (X.open HS)).mono ?_
  rintro e w' ⟨rfl, h⟩
  exact ⟨rfl, RT.shut X X h⟩
theorem order_rx (hX : PI j X.A) (w : World) (HS : S w [X.I]) : Calls Try.prog 50 #[.pointer (some ⟨X.g, 0, none⟩), .int .i64 q] w fun e w' => ∃ p c, e = .returned (.tuple #[.slice p (orderV X.A q).length c, .int .i64 (orderE X.A q)]) ∧ S w' ([Rw 9 1 p (orderV X.A q).length c (fl strL (orderV X.A q)), X.I] ++ [Old w (fps [X.I])]) := by
  have hTl : X.A.T.length = X.rs.length := List.length_map ..
  by_cases hq : q < 0 ∨ (X.rs.length : Int) ≤ q
  · refine (order_Re hX.rs hX.rsl hq w (X.open HS)).mono ?_
    rintro e w' ⟨rfl, h⟩
    have hE : orderE X.A q = 7 := if_pos (by omega)
    have hV : orderV X.A q = [] := if_neg (by rw [hE]; decide)
    exact ⟨none, 0, by rw [hE, hV]; rfl, by rw [hV]; exact (RT.shut X X h).nilFl 9 1 strL⟩
  · obtain ⟨m, rfl⟩ : ∃ m : Nat, q = (m : Int) := ⟨q.toNat, by omega⟩
    refine (order_Rk (m := m) hX.rs hX.rsl (by omega) w (X.open HS)).mono ?_
    rintro e w' ⟨p, c, rfl, h⟩
    have hE : orderE X.A m = 0 := if_neg (by omega)
    have h2 := RT.shut X X (w := w) (w' := w') (h.takes [1, 2, 3, 4] (by decide))
    refine ⟨p, c, by rw [hE]; rfl, ?_⟩
    have h3 : S w' ([_, _, _, _, _]) := h.takes [1, 2, 3, 0, 4] (by decide)
    rw [show fps [X.I] = fps X.L from fps_big]
    exact (S.big (L := X.L) (B := [_, _]) h3).takes [1, 0, 2] (by decide)
end
/-! a new one -/
def newA (seed : ByteArray) (ls : List (Ro ByteArray)) (whole : Bool) : PS := ⟨ls.map fun r => (sortN seed r.l).map newTk, 0, none, 0, false, whole, false, false⟩
theorem newA_flat (seed : ByteArray) (ls : List (Ro ByteArray)) (whole : Bool) : (newA seed ls whole).T.flatten = ((ls.map fun r => sortN seed r.l).flatten).map newTk := by
  show (ls.map fun r => (sortN seed r.l).map newTk).flatten = _
  rw [List.map_flatten, List.map_map]; rfl
theorem sorted_perm (seed : ByteArray) : ∀ ls : List (Ro ByteArray), ((ls.map fun r => sortN seed r.l).flatten).Perm (tlsOf ls).flatten
  | [] => .refl _
  | r :: ls => by
    show (sortN seed r.l ++ (ls.map fun r => sortN seed r.l).flatten).Perm (r.l ++ (tlsOf ls).flatten)
    exact (sortN_perm seed r.l).append (sorted_perm seed ls)
theorem PI.new {seed : ByteArray} {ls : List (Ro ByteArray)} {whole : Bool} (h : goodL (tlsOf ls)) : PI 0 (newA seed ls whole) := by
  have hp := sorted_perm seed ls
  have hl : (tlsOf ls).length = ls.length := List.length_map ..
  refine ⟨⟨?_, fun r hr => ?_, ?_, fun x hx => ?_, fun x hx => ?_⟩, Int.le_refl _, Int.le_refl _, fun c hc => (by cases hc), fun c hc => (by cases hc), fun hd => (by cases hd)⟩
  · show 1 ≤ (ls.map _).length ∧ (ls.map _).length ≤ 20
    rw [List.length_map]; have h1 := h.1; have h2 := h.2.1; omega
  · obtain ⟨r0, hr0, rfl⟩ := List.mem_map.1 hr
    have h3 := h.2.2.1 r0.l (List.mem_map.2 ⟨r0, hr0, rfl⟩)
    rw [List.length_map, sortN_len]; exact ⟨h3.1, h3.2.1⟩
  · rw [newA_flat, List.map_map]
    have e : (Tk.name ∘ newTk) = id := rfl
    rw [e, List.map_id]; exact hp.nodup_iff.2 h.2.2.2
  · rw [newA_flat] at hx
    obtain ⟨s, hs, rfl⟩ := List.mem_map.1 hx
    obtain ⟨l, hl, hsl⟩ := List.mem_flatten.1 (hp.mem_iff.1 hs)
    exact (h.2.2.1 l hl).2.2 s hsl
  · rw [newA_flat] at hx
    obtain ⟨s, hs, rfl⟩ := List.mem_map.1 hx
    exact ⟨Int.le_refl _, Int.le_refl _, Int.le_refl _⟩
theorem new_x (seed : ByteArray) (hsd : seed.size ≤ 1000) (ls : List (Ro ByteArray)) (p : Option Addr) (c : Nat) (hnl : ls.length ≤ 1000) (hln : ∀ r ∈ ls, r.l.length ≤ 1000 ∧ ∀ s ∈ r.l, s.size ≤ 1000) (whole : Bool) (w : World) (hr : Reads w p ls.length c 1 (fl rowL ls)) (hrs : ∀ r ∈ ls, Reads w r.p r.l.length r.c 1 (fl strL r.l)) : Calls Try.prog 9 #[.string seed, .slice p ls.length c, .bool whole] w fun e w' => (¬ (seed.size ≤ 100 ∧ goodL (tlsOf ls)) ∧ e = .returned (.tuple #[.pointer none, .int .i64 1]) ∧ S w' [Old w no]) ∨ (∃ Y : TM, seed.size ≤ 100 ∧ goodL (tlsOf ls) ∧ Y.ok 0 ∧ Y.A = newA seed ls whole ∧ e = .returned (.tuple #[.pointer (some ⟨Y.g, 0, none⟩), .int .i64 0]) ∧ S w' ([Y.I] ++ [Old w no])) := by
  refine (new_s seed hsd ls p ls.length c rfl hnl hln whole w (by rw [rosV_fl]; exact hr) (fun r h => by rw [stV_fl]; exact hrs r h)).mono ?_
  rintro e w' (⟨hb, rfl, h⟩ | ⟨g, mg, nr, C, P, rows, tk, M, hs, hg, hN, hn, rfl, h⟩)
  · exact .inl ⟨hb, rfl, h⟩
  · subst hn
    have hA : TM.A ⟨g, mg, C, P, none, 0, 0, 0, false, whole, false, false, rows, tk, M⟩ = newA seed ls whole := by
      refine PS.ext ?_ rfl rfl rfl rfl rfl rfl rfl
      show (lsOf rows).map (fun l => l.map tk) = ls.map fun r => (sortN seed r.l).map newTk
      have h1 := hN.nms
      rw [List.take_length] at h1
      have h2 : (lsOf rows).map (fun l => l.map tk) = (rows.map fun r => namesT tk r.l).map fun l => l.map newTk := by
        unfold lsOf
        rw [List.map_map, List.map_map]
        refine List.map_congr_left fun r hr => ?_
        show r.l.map tk = (r.l.map fun x => (tk x).name).map newTk
        rw [List.map_map]
        exact List.map_congr_left fun x hx => hN.fresh x (List.mem_append_left _ (mem_adr_row hr hx))
      rw [h2, h1, List.map_map]; rfl
    refine .inr ⟨⟨g, mg, C, P, none, 0, 0, 0, false, whole, false, false, rows, tk, M⟩, hs, hg, ⟨by rw [hA]; exact PI.new hg, fun y hy => (by cases hy), fun s x => ?_⟩, hA, rfl, S.big (B := [_]) h⟩
    have := hN.map s x
    rwa [List.append_nil] at this
theorem new_rx (seed : ByteArray) (hsd : seed.size ≤ 1000) (ls : List (Ro ByteArray)) (p : Option Addr) (c : Nat) (hnl : ls.length ≤ 1000) (hln : ∀ r ∈ ls, r.l.length ≤ 1000 ∧ ∀ s ∈ r.l, s.size ≤ 1000) (whole : Bool) (w : World) (hr : Reads w p ls.length c 1 (fl rowL ls)) (hrs : ∀ r ∈ ls, Reads w r.p r.l.length r.c 1 (fl strL r.l)) : Calls Try.prog 19 #[.string seed, .slice p ls.length c, .bool whole] w fun e w' => (¬ (seed.size ≤ 100 ∧ goodL (tlsOf ls)) ∧ e = .returned (.tuple #[.pointer none, .int .i64 1]) ∧ S w' [Old w no]) ∨ (∃ Y : RT, seed.size ≤ 100 ∧ goodL (tlsOf ls) ∧ PI 0 Y.A ∧ Y.A = newA seed ls whole ∧ e = .returned (.tuple #[.pointer (some ⟨Y.g, 0, none⟩), .int .i64 0]) ∧ S w' ([Y.I] ++ [Old w no])) := by
  refine (new_ref seed hsd ls p c hnl hln whole w hr hrs).mono ?_
  rintro e w' (⟨hb, rfl, h⟩ | ⟨g, P, C, rs, hs, hg, hT, rfl, h⟩)
  · exact .inl ⟨hb, rfl, h⟩
  · have hA : RT.A ⟨g, C, P, rs, 0, false, ⟨#[]⟩, 0, false, whole, false, false, 0⟩ = newA seed ls whole := by
      refine PS.ext hT rfl rfl rfl rfl ?_ rfl rfl
      show (whole || false) = whole
      cases whole <;> rfl
    exact .inr ⟨⟨g, C, P, rs, 0, false, ⟨#[]⟩, 0, false, whole, false, false, 0⟩, hs, hg, by rw [hA]; exact PI.new hg, hA, rfl, S.big (B := [_]) h⟩
end Go.Proofs.Ytibdlnjnomikjaa
