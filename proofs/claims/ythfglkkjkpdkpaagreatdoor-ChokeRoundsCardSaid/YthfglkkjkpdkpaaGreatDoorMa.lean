import Derived.Test.YthfglkkjkpdkpaaGreatDoorLz
set_option linter.unusedSimpArgs false
set_option linter.unusedVariables false
namespace Go.Proofs.YthfglkkjkpdkpaaGreatDoor
open Go.RowKit

/-! ## Rated ways: one by one, the last of a third round by luck -/
/-- What was picked, and what is left. -/
def LK (c : Rv → Rv → Int) (round slots : Int) (seed : ByteArray) (L o B : List Rv) : Prop :=
  (Picks c L o B ∧ (o.length : Int) ≤ slots ∧ (round % 3 = 2 → (o.length : Int) < slots ∨ slots = 0)) ∨
  (round % 3 = 2 ∧ ∃ (o' B' : List Rv) (j : Nat) (x : Rv), o = o' ++ [x] ∧ Picks c L o' B' ∧ IsBest (cO round seed) B' B'.length j x ∧ B = B'.eraseIdx j ∧ (o'.length : Int) = slots - 1)
variable {c : Rv → Rv → Int} {round slots : Int} {seed : ByteArray} {L o B : List Rv}
theorem LK.sub (h : LK c round slots seed L o B) : B.Sublist L := by
  rcases h with ⟨h, _⟩ | ⟨_, o', B', j, x, _, h, _, rfl, _⟩
  · exact h.sub
  · exact (List.eraseIdx_sublist ..).trans h.sub
theorem LK.len (h : LK c round slots seed L o B) : o.length + B.length = L.length := by
  rcases h with ⟨h, _⟩ | ⟨_, o', B', j, x, rfl, h, hb, rfl, _⟩
  · exact h.len
  · have h1 := h.len
    have h2 := hb.1
    rw [List.length_eraseIdx_of_lt hb.1, List.length_append, List.length_singleton]
    omega
theorem LK.le (h : LK c round slots seed L o B) : (o.length : Int) ≤ slots := by
  rcases h with ⟨_, h, _⟩ | ⟨_, o', B', j, x, rfl, _, _, _, h⟩
  · exact h
  · rw [List.length_append, List.length_singleton]; omega
theorem LK.nil (hs : 0 ≤ slots) : LK c round slots seed L [] L := .inl ⟨Picks.nil, by show (0 : Int) ≤ slots; exact hs, fun _ => by show (0 : Int) < slots ∨ _; omega⟩
theorem LK.picks (h : LK c round slots seed L o B) (hl : (o.length : Int) < slots) : Picks c L o B := by
  rcases h with ⟨h, _⟩ | ⟨_, o', B', j, x, rfl, h, hb, rfl, hk⟩
  · exact h
  · rw [List.length_append, List.length_singleton] at hl; omega
theorem LK.step {j : Nat} {x : Rv} (h : LK c round slots seed L o B) (hl : (o.length : Int) < slots) (hr : ¬ (round % 3 = 2 ∧ (o.length : Int) = slots - 1)) (hb : IsBest c B B.length j x) : LK c round slots seed L (o ++ [x]) (B.eraseIdx j) :=
  .inl ⟨Picks.step (h.picks hl) hb, by rw [List.length_append, List.length_singleton]; omega, fun h3 => by rw [List.length_append, List.length_singleton]; omega⟩
theorem LK.luck {j : Nat} {x : Rv} (h : LK c round slots seed L o B) (hl : (o.length : Int) < slots) (h3 : round % 3 = 2) (hk : (o.length : Int) = slots - 1) (hb : IsBest (cO round seed) B B.length j x) : LK c round slots seed L (o ++ [x]) (B.eraseIdx j) :=
  .inr ⟨h3, o, B, j, x, rfl, h.picks hl, hb, rfl, hk⟩
/-- Whom a way lets: as many as there are places, if there are so many; all of them able. -/
def LetOK (slots : Int) (L o : List Rv) : Prop := o.length = min slots.toNat L.length ∧ ∀ x ∈ o, x ∈ L
theorem LK.mem (h : LK c round slots seed L o B) : ∀ x ∈ o, x ∈ L := by
  rcases h with ⟨h, _⟩ | ⟨_, o', B', j, x, rfl, h, hb, rfl, _⟩
  · exact fun x hx => h.perm.mem_iff.1 (List.mem_append_left _ hx)
  · intro y hy
    rcases List.mem_append.1 hy with hy | hy
    · exact h.perm.mem_iff.1 (List.mem_append_left _ hy)
    · rw [List.mem_singleton] at hy; subst hy
      exact h.sub.subset (List.mem_of_getElem? hb.2.1)
theorem LK.ok (h : LK c round slots seed L o B) (he : (o.length : Int) = slots ∨ B.length = 0) : LetOK slots L o := ⟨by have := h.len; have := h.le; omega, h.mem⟩
/-- What is left are those that were not picked. -/
theorem Picks.rest {c : Rv → Rv → Int} {L o B : List Rv} (hn : (L.map Rv.id).Nodup) (h : Picks c L o B) : B = L.filter fun x => !decide (x.id ∈ o.map Rv.id) := by
  induction h with
  | nil => rw [List.filter_eq_self.2 (fun x _ => by simp)]
  | @step o r i x hp hb ih =>
    obtain ⟨hi, e⟩ := List.getElem?_eq_some_iff.1 hb.2.1
    have hnr : (r.map Rv.id).Nodup := hn.sublist (hp.sub.map Rv.id)
    have h1 : r.eraseIdx i = r.filter fun y => !decide (y.id = x.id) := by
      rw [List.eraseIdx_eq_take_drop_succ]
      have hr : r = r.take i ++ x :: r.drop (i + 1) := by
        conv => lhs; rw [← List.take_append_drop i r, List.drop_eq_getElem_cons hi, e]
      rw [hr, List.map_append, List.map_cons, List.nodup_append] at hnr
      obtain ⟨_, h3, h4⟩ := hnr
      rw [List.nodup_cons] at h3
      conv => rhs; rw [hr]
      rw [List.filter_append, List.filter_cons, if_neg (by simp), List.filter_eq_self.2, List.filter_eq_self.2]
      · intro y hy
        have : y.id ≠ x.id := fun he => h3.1 (by rw [← he]; exact List.mem_map.2 ⟨y, hy, rfl⟩)
        simp [this]
      · intro y hy
        have : y.id ≠ x.id := h4 y.id (List.mem_map.2 ⟨y, hy, rfl⟩) x.id (List.mem_cons_self ..)
        simp [this]
    rw [h1, ih, List.filter_filter]
    refine List.filter_congr fun y _ => ?_
    rw [List.map_append, List.map_cons, List.map_nil]
    by_cases h5 : y.id = x.id <;> by_cases h6 : y.id ∈ o.map Rv.id <;> simp [h5, h6]
theorem rated_is {l : List Rv} (hc : Wk c) (hl : l.length ≤ 30) (hn : (l.map Rv.id).Nodup) (hs : 0 ≤ slots) (h : LK c round slots seed (l.filter qW) o B) (he : (o.length : Int) = slots ∨ B.length = 0) : ratedL round slots seed c l = o := by
  have hfl : (l.filter qW).length < 40 := by have := List.length_filter_le qW l; omega
  have hsl := srt_len Rv.zero c (l.filter qW)
  have hlen := h.len
  have hle := h.le
  unfold ratedL
  rcases h with ⟨hp, h1, h2⟩ | ⟨h3, o', B', j, x, rfl, hp, hb, rfl, hk⟩
  · obtain ⟨hB, hsr⟩ := hp.srt (d := Rv.zero) hc hfl
    have hBl := srt_len Rv.zero c B
    by_cases h3 : round % 3 ≠ 2 ∨ ((srt Rv.zero c (l.filter qW)).length : Int) ≤ slots
    · rw [if_pos h3, hsr]
      have h4 : min (o ++ srt Rv.zero c B).length slots.toNat = o.length := by
        rw [List.length_append, hBl]
        omega
      rw [h4, List.take_left]
    · rw [if_neg h3]
      have h5 : slots = 0 := by omega
      have h6 : o = [] := List.eq_nil_of_length_eq_zero (by omega)
      rw [fill_eq (optL_nodup hn round seed)]
      subst h5
      simp [h6]
  · obtain ⟨hB, hsr⟩ := hp.srt (d := Rv.zero) hc hfl
    have hBl := srt_len Rv.zero c B'
    have hpl := hp.len
    have hbl := hb.1
    rw [List.length_append, List.length_singleton] at hlen hle
    by_cases h4 : ((srt Rv.zero c (l.filter qW)).length : Int) ≤ slots
    · rw [if_pos (.inr h4), hsr]
      have h5 : B'.length = 1 := by omega
      have h6 : B' = [x] := by
        obtain ⟨y, hy⟩ := List.length_eq_one_iff.1 h5
        have h7 := hb.2.1
        have h8 : j = 0 := by omega
        rw [hy, h8] at h7
        rw [hy]; cases h7; rfl
      have h7 : srt Rv.zero c B' = [x] := by
        have := (srt_perm Rv.zero c B')
        rw [h6] at this ⊢
        exact List.perm_singleton.1 this
      rw [h7, List.take_of_length_le (by rw [List.length_append, List.length_singleton]; omega)]
    · rw [if_neg (by omega), hsr]
      have h5 : min (o' ++ srt Rv.zero c B').length (slots - 1).toNat = o'.length := by
        rw [List.length_append, hBl]; omega
      rw [h5, List.take_left, fill_eq (optL_nodup hn round seed)]
      have h6 : slots.toNat - o'.length = 1 := by omega
      have hnf : ((l.filter qW).map Rv.id).Nodup := hn.sublist (List.filter_sublist.map Rv.id)
      unfold optL
      rw [← srt_filter (d := Rv.zero) (l := l.filter qW) (cO_wk round seed) hfl, ← Picks.rest hnf hp, srt_best (cO_wk round seed) hB hb, h6]
      rfl
end Go.Proofs.YthfglkkjkpdkpaaGreatDoor
