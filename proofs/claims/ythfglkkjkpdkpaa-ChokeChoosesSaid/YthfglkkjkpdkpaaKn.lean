import Derived.Test.YthfglkkjkpdkpaaKl
set_option linter.unusedSimpArgs false
set_option linter.unusedVariables false
namespace Go.Proofs.Ythfglkkjkpdkpaa
open Go.RowKit

/-! ## The best that is left, again and again: the plain law of Choose -/
section
variable {α β : Type}
theorem Wk.comap {c : β → β → Int} (h : Wk c) (f : α → β) : Wk fun a b => c (f a) (f b) := ⟨fun x y => h.anti _ _, fun x y z => h.trans _ _ _⟩
/-- Where the best of those that may be taken stands, as far as one has looked; -1: nowhere. -/
def AtB (c : α → α → Int) (P : α → Bool) (l : List α) (i : Nat) (a : Int) : Prop :=
  (a = -1 ∧ ∀ y ∈ l.take i, P y = false) ∨ ∃ (j : Nat) (x : α), a = (j : Int) ∧ j < i ∧ l[j]? = some x ∧ P x = true ∧ ∀ y ∈ l.take i, P y = true → ¬ c y x < 0
variable {c : α → α → Int} {P : α → Bool} {l : List α} {i : Nat} {a : Int} {x : α}
theorem AtB.start : AtB c P l 0 (-1) := .inl ⟨rfl, fun y hy => by simp at hy⟩
theorem AtB.skip (h : AtB c P l i a) (hx : l[i]? = some x) (hP : P x = false) : AtB c P l (i + 1) a := by
  rcases h with ⟨h1, h2⟩ | ⟨j, z, h1, h2, h3, h4, h5⟩
  · exact .inl ⟨h1, no_takeP h2 hx hP⟩
  · exact .inr ⟨j, z, h1, by omega, h3, h4, no_takeP h5 hx (fun h => by rw [hP] at h; cases h)⟩
theorem AtB.first (h : AtB c P l i a) (W : Wk c) (ha : a < 0) (hx : l[i]? = some x) (hP : P x = true) : AtB c P l (i + 1) (i : Int) := by
  rcases h with ⟨h1, h2⟩ | ⟨j, z, h1, _⟩
  · refine .inr ⟨i, x, rfl, by omega, hx, hP, no_takeP (fun y hy hy2 => by rw [h2 y hy] at hy2; cases hy2) hx (fun _ h => ?_)⟩
    have := W.refl x
    omega
  · omega
theorem AtB.at (h : AtB c P l i a) (ha : ¬ a < 0) : ∃ (j : Nat) (x : α), a = (j : Int) ∧ j < i ∧ l[j]? = some x ∧ P x = true ∧ ∀ y ∈ l.take i, P y = true → ¬ c y x < 0 := by
  rcases h with ⟨h1, h2⟩ | h
  · omega
  · exact h
theorem AtB.none (h : AtB c P l i a) (ha : a < 0) : ∀ y ∈ l.take i, P y = false := by
  rcases h with ⟨h1, h2⟩ | ⟨j, z, h1, _⟩
  · exact h2
  · omega
theorem AtB.better {z : α} (W : Wk c) (hb : ∀ y ∈ l.take i, P y = true → ¬ c y z < 0) (hx : l[i]? = some x) (hP : P x = true) (hc : c x z < 0) : AtB c P l (i + 1) (i : Int) := by
  refine .inr ⟨i, x, rfl, by omega, hx, hP, no_takeP (fun y hy hy2 => fun h => ?_) hx (fun _ h => ?_)⟩
  · have h1 := hb y hy hy2
    have h2 := W.trans y x z (by omega) (by omega)
    have h3 := W.lt1 h (y := x) (z := z) (by omega)
    exact h1 h3
  · have := W.refl x
    omega
theorem AtB.stay {j : Nat} {z : α} (hj : j < i) (hz : l[j]? = some z) (hPz : P z = true) (hb : ∀ y ∈ l.take i, P y = true → ¬ c y z < 0) (hx : l[i]? = some x) (hc : ¬ c x z < 0) : AtB c P l (i + 1) (j : Int) :=
  .inr ⟨j, z, rfl, by omega, hz, hPz, no_takeP hb hx (fun _ => hc)⟩
theorem srt_le {c : α → α → Int} (h : Wk c) (d : α) {l : List α} (hl : l.length < 40) : (srt d c l).Pairwise fun a b => c a b ≤ 0 := by
  unfold srt
  rw [List.pairwise_map]
  exact (srtZ_sorted h hl).imp fun {a b} hab => by
    rcases hab with hab | ⟨hab, _⟩ <;> omega
end
theorem id_at {L : List Rv} (hn : (L.map Rv.id).Nodup) {i j : Nat} {x y : Rv} (hx : L[i]? = some x) (hy : L[j]? = some y) (he : x.id = y.id) : i = j := by
  obtain ⟨hi, ei⟩ := List.getElem?_eq_some_iff.1 hx
  obtain ⟨hj, ej⟩ := List.getElem?_eq_some_iff.1 hy
  have key : ∀ i j (hi : i < L.length) (hj : j < L.length), i < j → L[i].id ≠ L[j].id := fun i j hi hj h => by
    have := List.pairwise_iff_getElem.1 hn i j (by rw [List.length_map]; exact hi) (by rw [List.length_map]; exact hj) h
    rwa [List.getElem_map, List.getElem_map] at this
  rcases Nat.lt_trichotomy i j with h | h | h
  · exact absurd (by rw [ei, ej]; exact he) (key i j hi hj h)
  · exact h
  · exact absurd (by rw [ei, ej]; exact he.symm) (key j i hj hi h)
theorem at_take {L : List Rv} (hn : (L.map Rv.id).Nodup) {k : Nat} {y : Rv} (hy : L[k]? = some y) : y.id ∉ (L.take k).map Rv.id := fun h => by
  obtain ⟨z, hz, he⟩ := List.mem_map.1 h
  obtain ⟨i, hi⟩ := List.getElem?_of_mem hz
  have hik : i < k := by
    have := (List.getElem?_eq_some_iff.1 hi).1
    rw [List.length_take] at this; omega
  rw [List.getElem?_take_of_lt hik] at hi
  have := id_at hn hi hy he
  omega
theorem next_is {L : List Rv} {c : Rv → Rv → Int} (hs : L.Pairwise fun a b => c a b ≤ 0) (hz : ∀ x y, c x y = 0 → x.id = y.id) (hn : (L.map Rv.id).Nodup) {k : Nat} {x : Rv} (hx : x ∈ L) (ho : x.id ∉ (L.take k).map Rv.id) (hb : ∀ y ∈ L, y.id ∉ (L.take k).map Rv.id → ¬ c y x < 0) : L[k]? = some x := by
  obtain ⟨j, hj⟩ := List.getElem?_of_mem hx
  have hjl := (List.getElem?_eq_some_iff.1 hj)
  have hkj : k ≤ j := Decidable.byContradiction fun hk => ho (List.mem_map.2 ⟨x, List.mem_of_getElem? (i := j) (by rw [List.getElem?_take_of_lt (by omega)]; exact hj), rfl⟩)
  rcases Nat.lt_or_eq_of_le hkj with h | rfl
  · have hk : k < L.length := by have := hjl.1; omega
    have hy := List.getElem?_eq_getElem hk
    have h1 := hb _ (List.getElem_mem hk) (at_take hn hy)
    have h2 := List.pairwise_iff_getElem.1 hs k j hk hjl.1 h
    rw [hjl.2] at h2
    have h3 := hz L[k] x (by omega)
    have := id_at hn hy hj h3
    omega
  · exact hj
theorem none_left {L : List Rv} (hn : (L.map Rv.id).Nodup) {k : Nat} (h : ∀ y ∈ L, y.id ∈ (L.take k).map Rv.id) : L.length ≤ k := Decidable.byContradiction fun hk => by
  have hk : k < L.length := by omega
  exact at_take hn (List.getElem?_eq_getElem hk) (h _ (List.getElem_mem hk))
theorem cF_lex : cF = lexC [fun x => -x.frm, Rv.lt, Rv.id] := by
  funext x y
  unfold cF
  simp only [lexC]
  have e : -x.frm - -y.frm = y.frm - x.frm := by omega
  rw [e]
  repeat' split
  all_goals omega
theorem cR_lex (turn : Int) : cR turn = lexC [Rv.lt, bhd turn, Rv.id] := by
  funext x y
  unfold cR
  simp only [lexC]
  repeat' split
  all_goals omega
theorem cF_wk : Wk cF := by rw [cF_lex]; exact lexC_wk _
theorem cR_wk (turn : Int) : Wk (cR turn) := by rw [cR_lex]; exact lexC_wk _
theorem cF_z (x y : Rv) (h : cF x y = 0) : x.id = y.id := by
  unfold cF at h
  repeat' split at h
  all_goals omega
theorem cR_z (turn : Int) (x y : Rv) (h : cR turn x y = 0) : x.id = y.id := by
  unfold cR at h
  repeat' split at h
  all_goals omega
theorem ids_all (sd : Bool) (l : List Rt) : (l.map (toRv sd)).map Rv.id = l.map Rt.peer := by rw [List.map_map]; rfl
/-- The IDs of those that were picked out and put in order are different. -/
theorem srt_nodup {l : List Rt} (hn : (l.map Rt.peer).Nodup) (sd : Bool) (c : Rv → Rv → Int) (q : Rv → Bool) : ((srt Rv.zero c ((l.map (toRv sd)).filter q)).map Rv.id).Nodup := by
  refine ((srt_perm Rv.zero c _).map Rv.id).nodup_iff.2 ?_
  refine List.Nodup.sublist (List.filter_sublist.map Rv.id) ?_
  rw [ids_all]; exact hn
theorem srt_memL {l : List Rt} {sd : Bool} {c : Rv → Rv → Int} {q : Rv → Bool} {x : Rv} : x ∈ srt Rv.zero c ((l.map (toRv sd)).filter q) ↔ ∃ r ∈ l, toRv sd r = x ∧ q x = true := by
  rw [srt_mem, List.mem_filter, List.mem_map]
  exact ⟨fun ⟨⟨r, h1, h2⟩, h3⟩ => ⟨r, h1, h2, h3⟩, fun ⟨r, h1, h2, h3⟩ => ⟨⟨r, h1, h2⟩, h3⟩⟩
/-- Who may be taken: of those that q takes, who is not out yet. -/
def PE (q : Rv → Bool) (sd : Bool) (O : List Int) (r : Rt) : Bool := q (toRv sd r) && !decide (r.peer ∈ O)
theorem PE_1 (sd : Bool) (O : List Int) (r : Rt) : PE q1 sd O r = ((r.wants && (sd || !r.snb)) && !decide (r.peer ∈ O)) := by
  unfold PE q1 toRv
  cases sd <;> simp
theorem pick_is {l : List Rt} (hl : l.length ≤ 30) (hn : (l.map Rt.peer).Nodup) {sd : Bool} {c : Rv → Rv → Int} {q : Rv → Bool} (W : Wk c) (hz : ∀ x y, c x y = 0 → x.id = y.id) {k : Nat} {O : List Int} (hO : O = ((srt Rv.zero c ((l.map (toRv sd)).filter q)).take k).map Rv.id) {z : Rt} (hzl : z ∈ l) (hP : PE q sd O z = true) (hb : ∀ y ∈ l, PE q sd O y = true → ¬ c (toRv sd y) (toRv sd z) < 0) :
    (srt Rv.zero c ((l.map (toRv sd)).filter q))[k]? = some (toRv sd z) := by
  unfold PE at hP hb
  simp only [Bool.and_eq_true, Bool.not_eq_true', decide_eq_false_iff_not] at hP hb
  have hlen : ((l.map (toRv sd)).filter q).length < 40 := by
    have := List.length_filter_le q (l.map (toRv sd))
    rw [List.length_map] at this; omega
  refine next_is (srt_le W Rv.zero hlen) hz (srt_nodup hn sd c q) (srt_memL.2 ⟨z, hzl, rfl, hP.1⟩) (by rw [← hO]; exact hP.2) fun y hy ho => ?_
  obtain ⟨r, h1, rfl, h3⟩ := srt_memL.1 hy
  exact hb r h1 ⟨h3, by rw [hO]; exact ho⟩
theorem pick_none {l : List Rt} (hn : (l.map Rt.peer).Nodup) {sd : Bool} {c : Rv → Rv → Int} {q : Rv → Bool} {k : Nat} {O : List Int} (hO : O = ((srt Rv.zero c ((l.map (toRv sd)).filter q)).take k).map Rv.id) (h : ∀ y ∈ l, PE q sd O y = false) : (srt Rv.zero c ((l.map (toRv sd)).filter q)).length ≤ k :=
  none_left (srt_nodup hn sd c q) fun y hy => by
    obtain ⟨r, h1, rfl, h3⟩ := srt_memL.1 hy
    have := h r h1
    unfold PE at this
    rw [h3] at this
    rw [← hO]
    show r.peer ∈ O
    simpa using this
theorem snoc_take {L : List Rv} {k : Nat} {x : Rv} {O : List Int} (hO : O = (L.take k).map Rv.id) (h : L[k]? = some x) : O ++ [x.id] = (L.take (k + 1)).map Rv.id := by
  rw [take_snocL h, List.map_append, hO]; rfl
/-- All that get places. -/
theorem first_end {l : List Rt} {sd : Bool} {slots : Int} {k : Nat} {O : List Int} (hO : O = ((srt Rv.zero cF ((l.map (toRv sd)).filter q1)).take k).map Rv.id) (hs : (k : Int) ≤ slots) (he : ¬ (k : Int) < slots ∨ (srt Rv.zero cF ((l.map (toRv sd)).filter q1)).length ≤ k) : O = (firstV l slots sd).map Rv.id := by
  rw [hO]; unfold firstV
  congr 1
  by_cases h : (srt Rv.zero cF ((l.map (toRv sd)).filter q1)).length ≤ k
  · rw [List.take_of_length_le h, List.take_of_length_le (by omega)]
  · have e : min (srt Rv.zero cF ((l.map (toRv sd)).filter q1)).length slots.toNat = k := by omega
    rw [e]
theorem rest_one {l : List Rt} (hl : l.length ≤ 30) (hn : (l.map Rt.peer).Nodup) {sd : Bool} {slots turn : Int} {z : Rt} (hzl : z ∈ l) (hP : q2 ((firstV l slots sd).map Rv.id) (toRv sd z) = true) (hb : ∀ y ∈ l, q2 ((firstV l slots sd).map Rv.id) (toRv sd y) = true → ¬ cR turn (toRv sd y) (toRv sd z) < 0) : restV l slots sd turn = [toRv sd z] := by
  have h := pick_is (k := 0) (O := []) (q := q2 ((firstV l slots sd).map Rv.id)) hl hn (cR_wk turn) (cR_z turn) rfl hzl (by unfold PE; rw [hP]; rfl) (fun y hy hy2 => hb y hy (by unfold PE at hy2; simpa using hy2))
  unfold restV
  cases hL : srt Rv.zero (cR turn) ((l.map (toRv sd)).filter (q2 ((firstV l slots sd).map Rv.id))) with
  | nil => rw [hL] at h; cases h
  | cons a t =>
    rw [hL] at h
    have h : some a = some (toRv sd z) := h
    cases h
    have e : min (toRv sd z :: t).length (1 : Int).toNat = 1 := by rw [List.length_cons]; omega
    rw [e]; rfl
theorem rest_none {l : List Rt} (hn : (l.map Rt.peer).Nodup) {sd : Bool} {slots turn : Int} (h : ∀ y ∈ l, q2 ((firstV l slots sd).map Rv.id) (toRv sd y) = false) : restV l slots sd turn = [] := by
  have h1 := pick_none (c := cR turn) (k := 0) (O := []) (q := q2 ((firstV l slots sd).map Rv.id)) (sd := sd) hn rfl (fun y hy => by unfold PE; rw [h y hy]; rfl)
  unfold restV
  rw [List.eq_nil_of_length_eq_zero (Nat.le_zero.1 h1)]; rfl
end Go.Proofs.Ythfglkkjkpdkpaa
