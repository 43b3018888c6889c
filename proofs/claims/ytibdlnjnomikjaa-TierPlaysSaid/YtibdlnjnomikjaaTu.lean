import Derived.Test.YtibdlnjnomikjaaTt
set_option linter.unusedSimpArgs false
set_option linter.unusedVariables false
namespace Go.Proofs.Ytibdlnjnomikjaa
open Go.RowKit

/-! ## New, in plain words -/
def namesT (tk : Nat → Tk) (l : List Nat) : List ByteArray := l.map fun x => (tk x).name
def tlsOf (ls : List (Ro ByteArray)) : List (List ByteArray) := ls.map (·.l)
def rowAt (ls : List (Ro ByteArray)) (i : Nat) : List ByteArray := (tlsOf ls).getD i []
theorem rowAt_at {ls : List (Ro ByteArray)} {i : Nat} {r : Ro ByteArray} (h : ls[i]? = some r) : rowAt ls i = r.l := by
  unfold rowAt tlsOf
  rw [List.getD_eq_getElem?_getD, List.getElem?_map, h]; rfl
structure NewI (seed : ByteArray) (ls : List (Ro ByteArray)) (i : Nat) (rows : Rws) (l1 : List Nat) (k : Nat) (tk : Nat → Tk) (M : ByteArray → Option Nat) : Prop where
  nms : rows.map (fun r => namesT tk r.l) = (ls.take i).map (fun r => sortN seed r.l)
  row : namesT tk l1 = (sortN seed (rowAt ls i)).take k
  fresh : ∀ x ∈ adr rows ++ l1, tk x = ⟨(tk x).name, 0, 0, false, false⟩
  map : ∀ s x, M s = some x ↔ x ∈ adr rows ++ l1 ∧ (tk x).name = s
  nodup : (namesT tk (adr rows ++ l1)).Nodup
  text : ∀ x ∈ adr rows ++ l1, textS (tk x).name = true
  lens : ∀ r ∈ rows, 1 ≤ r.l.length ∧ r.l.length ≤ 20
def goodL (ls : List (List ByteArray)) : Prop := 1 ≤ ls.length ∧ ls.length ≤ 20 ∧ (∀ l ∈ ls, 1 ≤ l.length ∧ l.length ≤ 20 ∧ ∀ s ∈ l, textS s = true) ∧ ls.flatten.Nodup
theorem NewI.start (seed : ByteArray) (ls : List (Ro ByteArray)) (tk : Nat → Tk) : NewI seed ls 0 [] [] 0 tk (fun _ => none) :=
  ⟨rfl, rfl, fun x hx => (by cases hx), fun s x => ⟨fun h => (by cases h), fun h => (by cases h.1)⟩, .nil, fun x hx => (by cases hx), fun r hr => (by cases hr)⟩
theorem namesT_upd {tk : Nat → Tk} {x : Nat} {a : Tk} {l : List Nat} (h : x ∉ l) : namesT (upd tk x a) l = namesT tk l :=
  List.map_congr_left fun y hy => by rw [upd_ne (show ¬ y = x from fun e => h (e ▸ hy))]
theorem mem_adr_row {rows : Rws} {r : Ro Nat} (hr : r ∈ rows) {x : Nat} (hx : x ∈ r.l) : x ∈ adr rows := List.mem_flatten.2 ⟨r.l, List.mem_map.2 ⟨r, hr, rfl⟩, hx⟩
theorem namesT_app (tk : Nat → Tk) (a b : List Nat) : namesT tk (a ++ b) = namesT tk a ++ namesT tk b := List.map_append ..
theorem adr_snoc (rows : Rws) (r : Ro Nat) : adr (rows ++ [r]) = adr rows ++ r.l := by
  unfold adr lsOf
  rw [List.map_append, List.flatten_append]; simp
theorem names_adr (tk : Nat → Tk) : ∀ rows : Rws, namesT tk (adr rows) = (rows.map (fun r => namesT tk r.l)).flatten
  | [] => rfl
  | r :: rows => by
    show namesT tk (r.l ++ adr rows) = namesT tk r.l ++ (rows.map (fun r => namesT tk r.l)).flatten
    rw [namesT_app, names_adr]
section
variable {seed : ByteArray} {ls : List (Ro ByteArray)} {i k : Nat} {rows : Rws} {l1 : List Nat} {tk : Nat → Tk} {M : ByteArray → Option Nat}
theorem NewI.step (h : NewI seed ls i rows l1 k tk M) {s : ByteArray} {x : Nat} (hx : x ∉ adr rows ++ l1) (hs : (sortN seed (rowAt ls i))[k]? = some s) (ht : textS s = true) (hM : M s = none) :
    NewI seed ls i rows (l1 ++ [x]) (k + 1) (upd tk x ⟨s, 0, 0, false, false⟩) (upM M s x) := by
  have hxa : x ∉ adr rows := fun e => hx (List.mem_append_left _ e)
  have hxl : x ∉ l1 := fun e => hx (List.mem_append_right _ e)
  have hn : namesT (upd tk x ⟨s, 0, 0, false, false⟩) (adr rows ++ (l1 ++ [x])) = namesT tk (adr rows ++ l1) ++ [s] := by
    rw [← List.append_assoc, namesT_app, namesT_upd hx]
    unfold namesT; simp [upd_same]
  have hmem : ∀ y, y ∈ adr rows ++ (l1 ++ [x]) ↔ y ∈ adr rows ++ l1 ∨ y = x := fun y => by
    simp [or_assoc]
  refine ⟨?_, ?_, ?_, ?_, ?_, ?_, h.lens⟩
  · rw [← h.nms]
    exact List.map_congr_left fun r hr => namesT_upd fun e => hxa (mem_adr_row hr e)
  · rw [namesT_app, namesT_upd hxl, h.row, take_snoc hs]
    unfold namesT; simp [upd_same]
  · intro y hy
    by_cases e : y = x
    · subst e; rw [upd_same]
    · rw [upd_ne e]
      rcases (hmem y).1 hy with hy | hy
      · exact h.fresh y hy
      · exact absurd hy e
  · intro s' y
    rw [hmem]
    unfold upM
    by_cases es : s' = s
    · subst es
      rw [if_pos rfl]
      constructor
      · intro e; cases e; exact ⟨.inr rfl, by rw [upd_same]⟩
      · rintro ⟨hy, hn⟩
        by_cases e : y = x
        · rw [e]
        · rw [upd_ne e] at hn
          rcases hy with hy | hy
          · rw [(h.map s' y).2 ⟨hy, hn⟩] at hM; cases hM
          · exact absurd hy e
    · rw [if_neg es, h.map]
      constructor
      · rintro ⟨hy, hn⟩
        have e : ¬ y = x := fun e => hx (e ▸ hy)
        exact ⟨.inl hy, by rw [upd_ne e]; exact hn⟩
      · rintro ⟨hy, hn⟩
        by_cases e : y = x
        · subst e; rw [upd_same] at hn; exact absurd hn.symm es
        · rw [upd_ne e] at hn
          rcases hy with hy | hy
          · exact ⟨hy, hn⟩
          · exact absurd hy e
  · rw [hn, List.nodup_append]
    refine ⟨h.nodup, by simp, fun a ha b hb => ?_⟩
    rw [List.mem_singleton] at hb
    subst hb
    rintro rfl
    obtain ⟨y, hy, e⟩ := List.mem_map.1 ha
    rw [(h.map _ y).2 ⟨hy, e⟩] at hM; cases hM
  · intro y hy
    by_cases e : y = x
    · subst e; rw [upd_same]; exact ht
    · rw [upd_ne e]
      rcases (hmem y).1 hy with hy | hy
      · exact h.text y hy
      · exact absurd hy e
theorem sortN_len (seed : ByteArray) (l : List ByteArray) : (sortN seed l).length = l.length := (sortN_perm seed l).length_eq
theorem NewI.len (h : NewI seed ls i rows l1 k tk M) (hk : k ≤ (rowAt ls i).length) : l1.length = k := by
  have := congrArg List.length h.row
  unfold namesT at this
  rw [List.length_map, List.length_take, sortN_len] at this; omega
theorem NewI.rowEnd (h : NewI seed ls i rows l1 k tk M) {r : Ro ByteArray} (hr : ls[i]? = some r) (hk : k = r.l.length) {p : Option Addr} {c : Nat} (h1 : 1 ≤ l1.length) (h2 : l1.length ≤ 20) : NewI seed ls (i + 1) (rows ++ [⟨p, c, l1⟩]) [] 0 tk M := by
  have e1 : adr (rows ++ [⟨p, c, l1⟩]) ++ [] = adr rows ++ l1 := by rw [adr_snoc, List.append_nil]
  refine ⟨?_, by simp [namesT], ?_, ?_, ?_, ?_, ?_⟩
  · have h3 := h.row
    rw [rowAt_at hr, List.take_of_length_le (by rw [sortN_len]; omega)] at h3
    rw [take_snoc hr, List.map_append, List.map_append, h.nms, List.map_singleton, List.map_singleton, h3]
  · rw [e1]; exact h.fresh
  · rw [e1]; exact h.map
  · rw [e1]; exact h.nodup
  · rw [e1]; exact h.text
  · intro r hr
    rcases List.mem_append.1 hr with hr | hr
    · exact h.lens r hr
    · rw [List.mem_singleton] at hr; subst hr; exact ⟨h1, h2⟩
theorem flat_sorted : ∀ ls : List (Ro ByteArray), ((ls.map (fun r => sortN seed r.l)).flatten).Perm (tlsOf ls).flatten
  | [] => .refl _
  | r :: ls => (sortN_perm seed r.l).append (flat_sorted ls)
theorem good_at {r : Ro ByteArray} (hg : goodL (tlsOf ls)) (hr : ls[i]? = some r) : 1 ≤ r.l.length ∧ r.l.length ≤ 20 ∧ ∀ s ∈ r.l, textS s = true :=
  hg.2.2.1 r.l (List.mem_map.2 ⟨r, List.mem_of_getElem? hr, rfl⟩)
theorem NewI.noText (h : NewI seed ls i rows l1 k tk M) {r : Ro ByteArray} (hr : ls[i]? = some r) {s : ByteArray} (hs : (sortN seed r.l)[k]? = some s) (ht : textS s = false) : ¬ goodL (tlsOf ls) := fun hg => by
  have := (good_at hg hr).2.2 s ((sortN_perm seed r.l).mem_iff.1 (List.mem_of_getElem? hs))
  rw [ht] at this; cases this
theorem NewI.twice (h : NewI seed ls i rows l1 k tk M) {r : Ro ByteArray} (hr : ls[i]? = some r) {s : ByteArray} (hs : (sortN seed r.l)[k]? = some s) {x : Nat} (hM : M s = some x) : ¬ goodL (tlsOf ls) := fun hg => by
  have hlt := (List.getElem?_eq_some_iff.1 hr).1
  obtain ⟨hx, hn⟩ := (h.map s x).1 hM
  have hin : s ∈ namesT tk (adr rows ++ l1) := List.mem_map.2 ⟨x, hx, hn⟩
  rw [namesT_app, names_adr, h.nms, h.row, rowAt_at hr] at hin
  have e1 : ls = ls.take i ++ r :: ls.drop (i + 1) := by
    conv => lhs; rw [← List.take_append_drop i ls]
    rw [List.drop_eq_getElem_cons hlt, (List.getElem?_eq_some_iff.1 hr).2]
  have hklt := (List.getElem?_eq_some_iff.1 hs).1
  have e2 : sortN seed r.l = (sortN seed r.l).take k ++ s :: (sortN seed r.l).drop (k + 1) := by
    conv => lhs; rw [← List.take_append_drop k (sortN seed r.l)]
    rw [List.drop_eq_getElem_cons hklt, (List.getElem?_eq_some_iff.1 hs).2]
  have hnd : ((ls.map (fun r => sortN seed r.l)).flatten).Nodup := (flat_sorted (seed := seed) ls).nodup_iff.2 hg.2.2.2
  rw [e1, List.map_append, List.map_cons, List.flatten_append, List.flatten_cons, e2] at hnd
  rw [← List.append_assoc, ← List.append_assoc, List.append_assoc, List.cons_append, List.nodup_append] at hnd
  exact hnd.2.2 s hin s (List.mem_cons_self ..) rfl
theorem NewI.shortRow (h : NewI seed ls i rows l1 k tk M) {r : Ro ByteArray} (hr : ls[i]? = some r) (hk : k = r.l.length) (hb : k < 1 ∨ 20 < k) : ¬ goodL (tlsOf ls) := fun hg => by
  have := good_at hg hr
  omega
theorem NewI.good (h : NewI seed ls ls.length rows [] 0 tk M) (h1 : 1 ≤ ls.length) (h2 : ls.length ≤ 20) : goodL (tlsOf ls) := by
  have hn := h.nms
  rw [List.take_length] at hn
  have hf : namesT tk (adr rows) = (ls.map (fun r => sortN seed r.l)).flatten := by rw [names_adr, hn]
  have hnd := h.nodup
  rw [List.append_nil, hf] at hnd
  refine ⟨by unfold tlsOf; simpa using h1, by unfold tlsOf; simpa using h2, fun l hl => ?_, (flat_sorted (seed := seed) ls).nodup_iff.1 hnd⟩
  obtain ⟨r, hr, rfl⟩ := List.mem_map.1 hl
  have h3 : sortN seed r.l ∈ rows.map (fun r => namesT tk r.l) := by rw [hn]; exact List.mem_map.2 ⟨r, hr, rfl⟩
  obtain ⟨q, hq, he⟩ := List.mem_map.1 h3
  have h4 := h.lens q hq
  have h5 : q.l.length = r.l.length := by
    have := congrArg List.length he
    unfold namesT at this
    rw [List.length_map, sortN_len] at this; exact this
  refine ⟨by omega, by omega, fun s hs => ?_⟩
  have h6 : s ∈ namesT tk q.l := by rw [he]; exact (sortN_perm seed r.l).mem_iff.2 hs
  obtain ⟨x, hx, rfl⟩ := List.mem_map.1 h6
  exact h.text x (List.mem_append_left _ (mem_adr_row hq hx))
theorem NewI.rowsLen (h : NewI seed ls i rows l1 k tk M) (hi : i ≤ ls.length) : rows.length = i := by
  have := congrArg List.length h.nms
  rw [List.length_map, List.length_map, List.length_take] at this; omega
end
end Go.Proofs.Ytibdlnjnomikjaa
