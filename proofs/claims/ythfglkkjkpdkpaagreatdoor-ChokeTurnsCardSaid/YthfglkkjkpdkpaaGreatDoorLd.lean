import Derived.Test.YthfglkkjkpdkpaaGreatDoorLb
set_option linter.unusedSimpArgs false
set_option linter.unusedVariables false
namespace Go.Proofs.YthfglkkjkpdkpaaGreatDoor
open Go.RowKit

/-! ## The way 3, round by round: who was never let comes first -/
theorem filter_lt {α : Type} {p q : α → Bool} (h : ∀ x, p x = true → q x = true) : ∀ {l : List α}, (∃ x ∈ l, q x = true ∧ p x = false) → (l.filter p).length < (l.filter q).length
  | [], ⟨x, hx, _⟩ => by cases hx
  | a :: l, ⟨x, hx, h1, h2⟩ => by
    have hle : ∀ m : List α, (m.filter p).length ≤ (m.filter q).length := fun m => by
      induction m with
      | nil => exact Nat.le_refl _
      | cons b m ih =>
        rw [List.filter_cons, List.filter_cons]
        cases hp : p b with
        | true => rw [if_pos rfl, if_pos (h b hp)]; exact Nat.succ_le_succ ih
        | false =>
          rw [if_neg (by decide)]
          split
          · rw [List.length_cons]; omega
          · exact ih
    rw [List.filter_cons, List.filter_cons]
    rcases List.mem_cons.1 hx with rfl | hx
    · rw [h2, h1, if_neg (by decide), if_pos rfl, List.length_cons]
      exact Nat.lt_succ_of_le (hle l)
    · have ih := filter_lt h (l := l) ⟨x, hx, h1, h2⟩
      cases hp : p a with
      | true => rw [if_pos rfl, if_pos (h a hp)]; exact Nat.succ_lt_succ ih
      | false =>
        rw [if_neg (by decide)]
        split
        · rw [List.length_cons]; omega
        · exact ih
def unseen (x : Rv) : Bool := decide (x.lt < 0)
/-- A rival of the play behind so many rounds, at its place. -/
structure Ri (r : Nat) (j : Nat) (x : Rv) : Prop where
  id : x.id = (j : Int) * 3
  intr : x.intr = true
  frm : x.frm = 0
  since : x.since = 0
  to : x.to = 0 ∨ x.to = 16384
  st : x.now = true → x.to = 16384
  lo : -1 ≤ x.lt
  hi : x.lt < r
/-- The play behind r rounds: the rivals, and who was seen. -/
structure LI (A : List Rv) (n r : Nat) (M : Int → Option Bool) : Prop where
  len : A.length = n
  at_ : ∀ j x, A[j]? = some x → Ri r j x
  seen : ∀ k, (∃ b, M k = some b) ↔ ∃ x ∈ A, x.id = k ∧ 0 ≤ x.lt
  left : (A.filter unseen).length = 0 ∨ (A.filter unseen).length + r ≤ n
theorem Ri.stB {r j : Nat} {x : Rv} (h : Ri r j x) : stB x = false := by
  unfold Go.Proofs.YthfglkkjkpdkpaaGreatDoor.stB
  cases hn : x.now with
  | false => simp
  | true => rw [h.st hn]; simp
theorem LI.ids {A : List Rv} {n r : Nat} {M : Int → Option Bool} (h : LI A n r M) : (A.map Rv.id).Nodup := by
  refine List.pairwise_iff_getElem.2 fun i j hi hj hij => ?_
  rw [List.length_map] at hi hj
  rw [List.getElem_map, List.getElem_map, (h.at_ i _ (List.getElem?_eq_getElem hi)).id, (h.at_ j _ (List.getElem?_eq_getElem hj)).id]
  omega
theorem LI.ask {A : List Rv} {n r : Nat} {M : Int → Option Bool} (h : LI A n r M) {seed : ByteArray} (hs : seed.size ≤ 100) (hn : n ≤ 12) (hr : r ≤ 12) : askE seed A = 0 := by
  refine askE_0 ?_ h.ids
  rintro (h1 | h1 | h1)
  · omega
  · have := h.len; omega
  · obtain ⟨x, hx, h2⟩ := List.any_eq_true.1 h1
    obtain ⟨j, hj⟩ := List.getElem?_of_mem hx
    have hjl := (List.getElem?_eq_some_iff.1 hj).1
    have hl := h.len
    have hi := h.at_ j x hj
    have hv : validR x = true := by
      unfold validR numB
      simp only [Bool.and_eq_true, decide_eq_true_eq]
      have h3 := hi.id; have h4 := hi.frm; have h5 := hi.since; have h6 := hi.to; have h7 := hi.lo; have h8 := hi.hi
      omega
    rw [hv] at h2; cases h2
theorem LI.all {A : List Rv} {n r : Nat} {M : Int → Option Bool} (h : LI A n r M) : A.filter qI = A := List.filter_eq_self.2 fun x hx => by
  obtain ⟨j, hj⟩ := List.getElem?_of_mem hx
  exact (h.at_ j x hj).intr
theorem LI.got {A : List Rv} {n r : Nat} {M : Int → Option Bool} (h : LI A n r M) {slots : Int} (hs : 1 ≤ slots ∧ slots ≤ 10) : ((ids3 A slots).length : Int) = min slots (n : Int) := by
  unfold ids3 sorted3
  rw [sortI_len, List.length_map, List.length_take, srt_len, h.all, h.len]
  omega
theorem c3_lex : c3 = lexC [stN, lastN, Rv.id] := by
  funext x y
  unfold c3
  simp only [lexC]
  repeat' split
  all_goals omega
theorem c3_wk : Wk c3 := by rw [c3_lex]; exact lexC_wk _
theorem srt_le {c : Rv → Rv → Int} (h : Wk c) {l : List Rv} (hl : l.length < 40) : (srt Rv.zero c l).Pairwise fun a b => c a b ≤ 0 := by
  unfold srt
  rw [List.pairwise_map]
  exact (srtZ_sorted h hl).imp fun {a b} hab => by
    rcases hab with hab | ⟨hab, _⟩ <;> omega
/-- As long as one was never let, one of these is let. -/
theorem LI.new {A : List Rv} {n r : Nat} {M : Int → Option Bool} (h : LI A n r M) {slots : Int} (hs : 1 ≤ slots ∧ slots ≤ 10) (hn : n ≤ 12) (hu : ∃ x ∈ A, unseen x = true) : ∃ x ∈ A, unseen x = true ∧ x.id ∈ ids3 A slots := by
  obtain ⟨y, hy, hyu⟩ := hu
  have hsr := srt_le c3_wk (l := A) (by rw [h.len]; omega)
  cases hL : srt Rv.zero c3 A with
  | nil =>
    have := srt_mem (d := Rv.zero) (c := c3) (l := A) (x := y)
    rw [hL] at this
    exact absurd (this.2 hy) (by simp)
  | cons x t =>
    have hxA : x ∈ A := (srt_mem (d := Rv.zero) (c := c3)).1 (by rw [hL]; exact List.mem_cons_self ..)
    refine ⟨x, hxA, ?_, ?_⟩
    · have hym : y ∈ srt Rv.zero c3 A := srt_mem.2 hy
      rw [hL] at hym hsr
      rcases List.mem_cons.1 hym with e | hym
      · rw [← e]; exact hyu
      · have h1 := (List.pairwise_cons.1 hsr).1 y hym
        obtain ⟨i, hi⟩ := List.getElem?_of_mem hxA
        obtain ⟨j, hj⟩ := List.getElem?_of_mem hy
        have h2 := (h.at_ i x hi).stB
        have h3 := (h.at_ j y hj).stB
        unfold c3 stN lastN at h1
        rw [h2, h3] at h1
        unfold unseen at hyu ⊢
        simp only [decide_eq_true_eq] at hyu ⊢
        simp at h1
        split at h1 <;> omega
    · unfold ids3 sorted3
      rw [sortI_mem, h.all, hL]
      refine List.mem_map.2 ⟨x, ?_, rfl⟩
      have e : ∃ k, min (x :: t).length slots.toNat = k + 1 := ⟨min (x :: t).length slots.toNat - 1, by rw [List.length_cons]; omega⟩
      obtain ⟨k, hk⟩ := e
      rw [hk, List.take_succ_cons]
      exact List.mem_cons_self ..
/-- What a round does to a rival. -/
def updR (r : Nat) (G : List Int) (x : Rv) : Rv := if x.id ∈ G then { x with now := true, to := 16384, lt := (r : Int) } else { x with now := false, to := 0 }
theorem updR_id (r : Nat) (G : List Int) (x : Rv) : (updR r G x).id = x.id := by unfold updR; split <;> rfl
theorem updR_lt (r : Nat) (G : List Int) (x : Rv) : (updR r G x).lt = if x.id ∈ G then (r : Int) else x.lt := by unfold updR; split <;> rfl
theorem LI.round {A : List Rv} {n r : Nat} {M M2 : Int → Option Bool} (h : LI A n r M) {slots : Int} (hs : 1 ≤ slots ∧ slots ≤ 10) (hn : n ≤ 12) (hr : r < n) (hM : ∀ k, (∃ b, M2 k = some b) ↔ (∃ b, M k = some b) ∨ ∃ x ∈ A, x.id = k ∧ k ∈ ids3 A slots) : LI (A.map (updR r (ids3 A slots))) n (r + 1) M2 := by
  refine ⟨by rw [List.length_map]; exact h.len, fun j x hx => ?_, fun k => ?_, ?_⟩
  · rw [List.getElem?_map] at hx
    obtain ⟨y, hy, rfl⟩ := Option.map_eq_some_iff.1 hx
    have hi := h.at_ j y hy
    have h7 := hi.lo; have h8 := hi.hi
    unfold updR
    split
    · exact ⟨hi.id, hi.intr, hi.frm, hi.since, .inr rfl, fun _ => rfl, by show -1 ≤ (r : Int); omega, by show (r : Int) < (r + 1 : Nat); omega⟩
    · exact ⟨hi.id, hi.intr, hi.frm, hi.since, .inl rfl, fun hh => (by cases hh), h7, by show y.lt < (r + 1 : Nat); omega⟩
  · rw [hM, h.seen]
    constructor
    · rintro (⟨x, hx, h1, h2⟩ | ⟨x, hx, h1, h2⟩)
      · refine ⟨_, List.mem_map.2 ⟨x, hx, rfl⟩, by rw [updR_id]; exact h1, ?_⟩
        rw [updR_lt]; split <;> omega
      · refine ⟨_, List.mem_map.2 ⟨x, hx, rfl⟩, by rw [updR_id]; exact h1, ?_⟩
        rw [updR_lt, if_pos (by rw [h1]; exact h2)]; omega
    · rintro ⟨y, hy, h1, h2⟩
      obtain ⟨x, hx, rfl⟩ := List.mem_map.1 hy
      rw [updR_id] at h1
      rw [updR_lt] at h2
      by_cases h3 : x.id ∈ ids3 A slots
      · exact .inr ⟨x, hx, h1, by rw [← h1]; exact h3⟩
      · rw [if_neg h3] at h2
        exact .inl ⟨x, hx, h1, h2⟩
  · have e : ((A.map (updR r (ids3 A slots))).filter unseen).length = (A.filter fun x => unseen x && !decide (x.id ∈ ids3 A slots)).length := by
      rw [List.filter_map, List.length_map]
      congr 1
      refine List.filter_congr fun x _ => ?_
      show unseen (updR r (ids3 A slots) x) = _
      unfold unseen
      rw [updR_lt]
      by_cases h3 : x.id ∈ ids3 A slots
      · rw [if_pos h3, decide_eq_true h3, decide_eq_false (by omega)]; simp
      · rw [if_neg h3, decide_eq_false h3]; simp
    rw [e]
    by_cases hu : ∃ x ∈ A, unseen x = true
    · obtain ⟨x, hx, h1, h2⟩ := h.new hs hn hu
      have := filter_lt (p := fun x => unseen x && !decide (x.id ∈ ids3 A slots)) (q := unseen) (fun x hx => by
        simp only [Bool.and_eq_true] at hx; exact hx.1) (l := A) ⟨x, hx, h1, by rw [decide_eq_true h2]; simp⟩
      rcases h.left with h3 | h3 <;> omega
    · refine .inl ?_
      rw [List.length_eq_zero_iff, List.filter_eq_nil_iff]
      intro x hx h1
      simp only [Bool.and_eq_true] at h1
      exact hu ⟨x, hx, h1.1⟩
/-- Behind all rounds all were seen. -/
theorem LI.end_ {A : List Rv} {n : Nat} {M : Int → Option Bool} (h : LI A n n M) (hn : n ≤ 12) {nk : Nat} (hk : KN okI M nk) : nk = n := by
  have h0 : (A.filter unseen).length = 0 := by rcases h.left with h1 | h1 <;> omega
  rw [List.length_eq_zero_iff, List.filter_eq_nil_iff] at h0
  obtain ⟨kv, hnd, hkv, rfl⟩ := hk
  have hp : (kv.map Prod.fst).Perm (A.map Rv.id) := by
    refine (List.perm_ext_iff_of_nodup hnd h.ids).2 fun k => ?_
    rw [List.mem_map, List.mem_map]
    constructor
    · rintro ⟨p, hp, rfl⟩
      obtain ⟨x, hx, h1, _⟩ := (h.seen p.1).1 ⟨p.2, ((hkv p).1 hp).2⟩
      exact ⟨x, hx, h1⟩
    · rintro ⟨x, hx, rfl⟩
      have hl : 0 ≤ x.lt := by
        have := h0 x hx
        unfold unseen at this
        simp only [decide_eq_true_eq] at this
        omega
      obtain ⟨b, hb⟩ := (h.seen x.id).2 ⟨x, hx, rfl, hl⟩
      obtain ⟨j, hj⟩ := List.getElem?_of_mem hx
      have hjl := (List.getElem?_eq_some_iff.1 hj).1
      have hle := h.len
      have hid := (h.at_ j x hj).id
      exact ⟨(x.id, b), (hkv _).2 ⟨⟨by show _ ≤ x.id; omega, by show x.id ≤ _; omega⟩, hb⟩, rfl⟩
  have := hp.length_eq
  rw [List.length_map, List.length_map, h.len] at this
  exact this
theorem LI.start {A : List Rv} {n : Nat} (hl : A.length = n) (h : ∀ j x, A[j]? = some x → Ri 0 j x) : LI A n 0 (fun _ => none) := by
  refine ⟨hl, h, fun k => ⟨fun ⟨b, hb⟩ => (by cases hb), fun ⟨x, hx, _, h2⟩ => ?_⟩, .inr ?_⟩
  · obtain ⟨j, hj⟩ := List.getElem?_of_mem hx
    have := (h j x hj).hi
    omega
  · have := List.length_filter_le unseen A
    omega
/-! A round, rival by rival. -/
theorem up_lo {u : Rv → Rv} {A cur : List Rv} {i : Nat} {x y : Rv} (hlo : ∀ j z, j < i → A[j]? = some z → cur[j]? = some (u z)) (hhi : ∀ j, i ≤ j → cur[j]? = A[j]?) (hx : cur[i]? = some x) (hy : y = u x) : ∀ j z, j < i + 1 → A[j]? = some z → (cur.set i y)[j]? = some (u z) := fun j z hj hz => by
  rcases Nat.lt_or_eq_of_le (Nat.le_of_lt_succ hj) with h | rfl
  · rw [List.getElem?_set_ne (by omega)]; exact hlo j z h hz
  · rw [List.getElem?_set_self (List.getElem?_eq_some_iff.1 hx).1, hy]
    rw [hhi j (Nat.le_refl _), hz] at hx
    cases hx; rfl
theorem up_hi {A cur : List Rv} {i : Nat} {y : Rv} (hhi : ∀ j, i ≤ j → cur[j]? = A[j]?) : ∀ j, i + 1 ≤ j → (cur.set i y)[j]? = A[j]? := fun j hj => by
  rw [List.getElem?_set_ne (by omega)]; exact hhi j (by omega)
theorem up_end {u : Rv → Rv} {A cur : List Rv} (hl : cur.length = A.length) (hlo : ∀ j z, j < A.length → A[j]? = some z → cur[j]? = some (u z)) : cur = A.map u := by
  refine List.ext_getElem? fun j => ?_
  rw [List.getElem?_map]
  by_cases hj : j < A.length
  · rw [hlo j _ hj (List.getElem?_eq_getElem hj), List.getElem?_eq_getElem hj]; rfl
  · rw [List.getElem?_eq_none (by omega), List.getElem?_eq_none (by omega)]; rfl
theorem upM_some {κ α : Type} [DecidableEq κ] (M : κ → Option α) (x y : κ) (a : α) : (∃ b, upM M x a y = some b) ↔ (∃ b, M y = some b) ∨ y = x := by
  unfold upM
  by_cases h : y = x
  · rw [if_pos h]; exact ⟨fun _ => .inr h, fun _ => ⟨a, rfl⟩⟩
  · rw [if_neg h]; exact ⟨fun h1 => .inl h1, fun h1 => h1.resolve_right h⟩
end Go.Proofs.YthfglkkjkpdkpaaGreatDoor
