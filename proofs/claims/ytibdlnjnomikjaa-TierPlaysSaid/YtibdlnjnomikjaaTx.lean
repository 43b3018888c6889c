import Derived.Test.YtibdlnjnomikjaaTw
set_option linter.unusedSimpArgs false
set_option linter.unusedVariables false
namespace Go.Proofs.Ytibdlnjnomikjaa
open Go.RowKit

/-! ## When, in plain words -/
section
variable {ev til : Int} {tk : Nat → Tk}
def WhenQ (ev til : Int) (tk : Nat → Tk) (m : Int) (l : List Pl) : Prop :=
  (m = -1 ∧ ∀ p ∈ l, (freeS ev til (tk p.2.2)).2 = false) ∨ (0 ≤ m ∧ (∃ p ∈ l, (freeS ev til (tk p.2.2)).2 = true ∧ m = (freeS ev til (tk p.2.2)).1) ∧ ∀ p ∈ l, (freeS ev til (tk p.2.2)).2 = true → m ≤ (freeS ev til (tk p.2.2)).1)
theorem whenT_q {m : Int} {l : List Pl} {p : Pl} (h : WhenQ ev til tk m l) (h0 : 0 ≤ (freeS ev til (tk p.2.2)).1) : WhenQ ev til tk (whenT ev til tk m p) (l ++ [p]) := by
  have mem : ∀ q, q ∈ l ++ [p] ↔ q ∈ l ∨ q = p := fun q => by simp
  unfold whenT
  rcases h with ⟨rfl, h⟩ | ⟨h1, ⟨q, hq, hq2, hq3⟩, h3⟩
  · cases hf : (freeS ev til (tk p.2.2)).2 with
    | false =>
      rw [if_neg (by simp)]
      refine .inl ⟨rfl, fun q hq => ?_⟩
      rcases (mem q).1 hq with hq | rfl
      · exact h q hq
      · exact hf
    | true =>
      rw [if_pos ⟨rfl, .inl (by decide)⟩]
      refine .inr ⟨h0, ⟨p, (mem p).2 (.inr rfl), hf, rfl⟩, fun q hq hq2 => ?_⟩
      rcases (mem q).1 hq with hq | rfl
      · rw [h q hq] at hq2; cases hq2
      · exact Int.le_refl _
  · cases hf : (freeS ev til (tk p.2.2)).2 with
    | false =>
      rw [if_neg (by simp)]
      refine .inr ⟨h1, ⟨q, (mem q).2 (.inl hq), hq2, hq3⟩, fun y hy hy2 => ?_⟩
      rcases (mem y).1 hy with hy | rfl
      · exact h3 y hy hy2
      · rw [hf] at hy2; cases hy2
    | true =>
      by_cases hlt : (freeS ev til (tk p.2.2)).1 < m
      · rw [if_pos ⟨rfl, .inr hlt⟩]
        refine .inr ⟨h0, ⟨p, (mem p).2 (.inr rfl), hf, rfl⟩, fun y hy hy2 => ?_⟩
        rcases (mem y).1 hy with hy | rfl
        · have := h3 y hy hy2; omega
        · exact Int.le_refl _
      · rw [if_neg (by rintro ⟨_, h | h⟩ <;> omega)]
        refine .inr ⟨h1, ⟨q, (mem q).2 (.inl hq), hq2, hq3⟩, fun y hy hy2 => ?_⟩
        rcases (mem y).1 hy with hy | rfl
        · exact h3 y hy hy2
        · omega
theorem whenF_fold : ∀ (l : List Pl) (m : Int) (seen : List Pl), WhenQ ev til tk m seen → (∀ p ∈ l, 0 ≤ (freeS ev til (tk p.2.2)).1) → WhenQ ev til tk (l.foldl (whenT ev til tk) m) (seen ++ l)
  | [], m, seen, h, _ => by rw [List.append_nil]; exact h
  | p :: l, m, seen, h, h0 => by
    have h1 := whenF_fold l _ (seen ++ [p]) (whenT_q h (h0 p (List.mem_cons_self ..))) (fun q hq => h0 q (List.mem_cons_of_mem _ hq))
    rw [List.append_assoc] at h1; exact h1
theorem whenF_spec {l : List Pl} (h0 : ∀ p ∈ l, 0 ≤ (freeS ev til (tk p.2.2)).1) : WhenQ ev til tk (whenF ev til tk l) l := by
  have := whenF_fold l (-1) [] (.inl ⟨rfl, fun p hp => by cases hp⟩) h0
  rw [List.nil_append] at this; exact this
theorem free_yes (h : ev ≠ 2) (t : Tk) : (freeS ev til t).2 = true := by
  unfold freeS; rw [if_neg h]; split <;> rfl
theorem free_lo (h : ev ≠ 2) (t : Tk) : t.after ≤ (freeS ev til t).1 := by
  unfold freeS; rw [if_neg h]; split
  · show t.after ≤ max t.after til; omega
  · exact Int.le_refl _
theorem free_hi (h : ev ≠ 2) (t : Tk) {b : Int} (h1 : t.after ≤ b) (h2 : til ≤ b) : (freeS ev til t).1 ≤ b := by
  unfold freeS; rw [if_neg h]; split
  · show max t.after til ≤ b; omega
  · exact h1
theorem ok_iff {n : Int} (h : ev ≠ 2) (t : Tk) : okS ev til n t = true ↔ (freeS ev til t).1 ≤ n := by
  unfold okS; rw [free_yes h]; simp
end
theorem nodup_inj {α β : Type} {f : α → β} {l : List α} (h : (l.map f).Nodup) {x y : α} (hx : x ∈ l) (hy : y ∈ l) (e : f x = f y) : x = y := by
  obtain ⟨i, hi⟩ := List.getElem?_of_mem hx
  obtain ⟨j, hj⟩ := List.getElem?_of_mem hy
  have := nodup_at h hi hj e
  subst this
  rw [hi] at hj; cases hj; rfl
/-- What holds of a client's memory, whatever is told. -/
structure Sane (rows : Rws) (tk : Nat → Tk) : Prop where
  rl : 1 ≤ rows.length ∧ rows.length ≤ 20
  lens : ∀ r ∈ rows, 1 ≤ r.l.length ∧ r.l.length ≤ 20
  names : (namesT tk (adr rows)).Nodup
  text : ∀ x ∈ adr rows, textS (tk x).name = true
theorem Sane.size {rows : Rws} {tk : Nat → Tk} (h : Sane rows tk) {x : Nat} (hx : x ∈ adr rows) : (tk x).name.size ≤ 200 := by
  have := h.text x hx
  unfold textS at this
  simp at this; exact this.2
theorem Sane.flat {rows : Rws} {tk : Nat → Tk} (h : Sane rows tk) : ∃ p, p ∈ flatF 0 (lsOf rows) := by
  have h1 := h.rl.1
  obtain ⟨r, hr⟩ : ∃ r, rows[0]? = some r := ⟨_, List.getElem?_eq_getElem (by omega)⟩
  have h2 := (h.lens r (List.mem_of_getElem? hr)).1
  obtain ⟨x, hx⟩ : ∃ x, r.l[0]? = some x := ⟨_, List.getElem?_eq_getElem (by omega)⟩
  exact ⟨(0, 0, x), mem_flatF.2 ⟨Nat.le_refl _, r.l, by unfold lsOf; rw [List.getElem?_map, show (0 : Nat) - 0 = 0 from rfl, hr]; rfl, hx⟩⟩
theorem Sane.setT {rows : Rws} {tk : Nat → Tk} (h : Sane rows tk) {x : Nat} {a : Tk} (ha : a.name = (tk x).name) : Sane rows (upd tk x a) := by
  have e : ∀ y, (upd tk x a y).name = (tk y).name := fun y => by
    by_cases e : y = x
    · subst e; rw [upd_same]; exact ha
    · rw [upd_ne e]
  have e2 : namesT (upd tk x a) (adr rows) = namesT tk (adr rows) := List.map_congr_left fun y _ => e y
  exact ⟨h.rl, h.lens, by rw [e2]; exact h.names, fun y hy => by rw [e]; exact h.text y hy⟩
theorem Sane.front {rows : Rws} {tk : Nat → Tk} (h : Sane rows tk) (x : Nat) : Sane (rows.map (frontR x)) tk := by
  have hp := adr_front x rows
  refine ⟨by rw [List.length_map]; exact h.rl, fun r hr => ?_, (hp.map _).nodup_iff.2 h.names, fun y hy => h.text y (hp.mem_iff.1 hy)⟩
  obtain ⟨q, hq, rfl⟩ := List.mem_map.1 hr
  show 1 ≤ (frontL x q.l).length ∧ (frontL x q.l).length ≤ 20
  rw [frontL_len]; exact h.lens q hq
theorem Sane.inj {rows : Rws} {tk : Nat → Tk} (h : Sane rows tk) {x y : Nat} (hx : x ∈ adr rows) (hy : y ∈ adr rows) (e : (tk x).name = (tk y).name) : x = y := nodup_inj h.names hx hy e
/-! ## TierWhen -/
structure WI (z : Nat) (rows : Rws) (tk : Nat → Tk) (tn til now : Int) (MF MA : ByteArray → Option Int) : Prop where
  sane : Sane rows tk
  htn : 0 ≤ tn ∧ tn ≤ now
  hnow : now ≤ z * 3600000
  htil : 0 ≤ til ∧ til ≤ now + 100000
  trk : ∀ x ∈ adr rows, 0 ≤ (tk x).failed ∧ (tk x).failed ≤ z ∧ 0 ≤ (tk x).after ∧ (tk x).after ≤ now + 3600000
  link : ∀ x ∈ adr rows, (MF (tk x).name).getD 0 = (tk x).failed ∧ (0 < (tk x).failed → (tk x).after = (MA (tk x).name).getD 0 + waitS (tk x).failed)
section
variable {z : Nat} {rows : Rws} {tk : Nat → Tk} {tn til now ev : Int} {MF MA : ByteArray → Option Int}
theorem WI.free0 (h : WI z rows tk tn til now MF MA) (he : ev ≠ 2) : ∀ p ∈ flatF 0 (lsOf rows), 0 ≤ (freeS ev til (tk p.2.2)).1 := fun p hp => by
  have := (h.trk _ (mem_adr hp)).2.2.1
  have h2 := free_lo (til := til) he (tk p.2.2)
  omega
theorem WI.when (h : WI z rows tk tn til now MF MA) (he : ev ≠ 2) : 0 ≤ whenF ev til tk (flatF 0 (lsOf rows)) ∧ whenF ev til tk (flatF 0 (lsOf rows)) ≤ now + 3600000 ∧ (∀ n, n < whenF ev til tk (flatF 0 (lsOf rows)) → ∀ p : Pl, p ∈ flatF 0 (lsOf rows) → okS ev til n (tk p.2.2) = false) ∧ ∀ n, whenF ev til tk (flatF 0 (lsOf rows)) ≤ n → ∃ p : Pl, p ∈ flatF 0 (lsOf rows) ∧ okS ev til n (tk p.2.2) = true := by
  obtain ⟨p0, hp0⟩ := h.sane.flat
  rcases whenF_spec (h.free0 he) with ⟨_, h2⟩ | ⟨h1, ⟨p, hp, _, hp3⟩, h3⟩
  · have := h2 p0 hp0
    rw [free_yes he] at this; cases this
  · have ht := h.trk _ (mem_adr hp)
    have hhi := free_hi (til := til) he (tk p.2.2) (b := now + 3600000) (by omega) (by have := h.htil.2; omega)
    refine ⟨h1, by omega, fun n hn q hq => ?_, fun n hn => ⟨p, hp, (ok_iff he _).2 (by omega)⟩⟩
    cases hk : okS ev til n (tk q.2.2) with
    | false => rfl
    | true =>
      have := (ok_iff he _).1 hk
      have := h3 q hq (free_yes he _)
      omega
theorem WI.fail (h : WI z rows tk tn til now MF MA) {x : Nat} (hx : x ∈ adr rows) {w : Int} (hw : now ≤ w) (hw2 : w ≤ now + 3600000) (told : Bool) :
    WI (z + 1) rows (upd tk x ⟨(tk x).name, (tk x).failed + 1, w + waitS ((tk x).failed + 1), (tk x).ans, told⟩) w til w (upM MF (tk x).name ((MF (tk x).name).getD 0 + 1)) (upM MA (tk x).name w) := by
  have hx0 := h.trk x hx
  have hws := waitS_ge ((tk x).failed + 1) (by omega)
  have ht := h.htn; have hn := h.hnow; have htil := h.htil
  refine ⟨h.sane.setT rfl, by omega, by omega, by omega, fun y hy => ?_, fun y hy => ?_⟩
  · by_cases e : y = x
    · subst e; rw [upd_same]
      refine ⟨?_, ?_, ?_, ?_⟩ <;> dsimp only <;> omega
    · rw [upd_ne e]
      have := h.trk y hy
      omega
  · by_cases e : y = x
    · subst e; rw [upd_same]
      refine ⟨?_, fun _ => ?_⟩
      · show (upM MF (tk y).name ((MF (tk y).name).getD 0 + 1) (tk y).name).getD 0 = (tk y).failed + 1
        unfold upM
        rw [if_pos rfl, Option.getD_some, (h.link y hy).1]
      · show w + waitS ((tk y).failed + 1) = (upM MA (tk y).name w (tk y).name).getD 0 + waitS ((tk y).failed + 1)
        unfold upM
        rw [if_pos rfl, Option.getD_some]
    · rw [upd_ne e]
      have hne : ¬ (tk y).name = (tk x).name := fun q => e (h.sane.inj hy hx q)
      unfold upM
      rw [if_neg hne, if_neg hne]; exact h.link y hy
theorem WI.answer (h : WI z rows tk tn til now MF MA) {x : Nat} (hx : x ∈ adr rows) {w iv : Int} (hw : now ≤ w) (hw2 : w ≤ now + 3600000) (hi : 1 ≤ iv) (hi2 : iv ≤ 100000) :
    WI (z + 1) (rows.map (frontR x)) (upd tk x ⟨(tk x).name, 0, 0, true, false⟩) w (w + iv) w (upM MF (tk x).name 0) MA := by
  have hp := adr_front x rows
  have ht := h.htn; have hn := h.hnow; have htil := h.htil
  refine ⟨(h.sane.front x).setT rfl, by omega, by omega, by omega, fun y hy => ?_, fun y hy => ?_⟩
  · have hy2 := hp.mem_iff.1 hy
    by_cases e : y = x
    · subst e; rw [upd_same]
      refine ⟨Int.le_refl _, ?_, Int.le_refl _, ?_⟩ <;> dsimp only <;> omega
    · rw [upd_ne e]
      have := h.trk y hy2
      omega
  · have hy2 := hp.mem_iff.1 hy
    by_cases e : y = x
    · subst e; rw [upd_same]
      refine ⟨?_, fun h0 => absurd h0 (Int.lt_irrefl 0)⟩
      show (upM MF (tk y).name 0 (tk y).name).getD 0 = 0
      unfold upM
      rw [if_pos rfl, Option.getD_some]
    · rw [upd_ne e]
      have hne : ¬ (tk y).name = (tk x).name := fun q => e (h.sane.inj hy2 hx q)
      unfold upM
      rw [if_neg hne]; exact h.link y hy2
end
end Go.Proofs.Ytibdlnjnomikjaa
