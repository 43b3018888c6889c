import Derived.Test.YtibdlnjnomikjaaTl
set_option linter.unusedSimpArgs false
set_option linter.unusedVariables false
namespace Go.Proofs.Ytibdlnjnomikjaa
open Go.RowKit

/-! ## TierEvents, in plain words -/
/-- A life. -/
structure EL (j : Nat) (rows : Rws) (tk : Nat → Tk) (tn til now : Int) (begun whole dn : Bool) (sd fd dx : Int) (wi : Nat) (MA : ByteArray → Option Bool) : Prop where
  sane : Sane rows tk
  htn : 0 ≤ tn ∧ tn ≤ now ∧ now ≤ 999999000
  htil : 0 ≤ til
  trk : ∀ x ∈ adr rows, 0 ≤ (tk x).failed ∧ (tk x).failed ≤ j ∧ 0 ≤ (tk x).after ∧ (tk x).told = false
  st : (begun = false ∧ sd = 0) ∨ (begun = true ∧ sd = 1)
  wh : whole = true → dx < wi
  fin : 0 ≤ fd ∧ fd ≤ 1 ∧ (whole = false → fd = 0 ∧ dn = false) ∧ (dn = true → fd = 0)
  map1 : ∀ x ∈ adr rows, (MA (tk x).name).getD false = (tk x).ans
  map2 : ∀ s b, MA s = some b → b = true ∧ ∃ x ∈ adr rows, (tk x).name = s
section
variable {j wi : Nat} {rows : Rws} {tk : Nat → Tk} {tn til now sd fd dx ev : Int} {begun whole dn : Bool} {MA : ByteArray → Option Bool}
theorem EL.done (h : EL j rows tk tn til now begun whole dn sd fd dx wi MA) (he : (wi : Int) = dx) : whole = false ∧ EL j rows tk tn til now begun true true sd fd dx (wi + 1) MA := by
  have hw : whole = false := by
    cases hw : whole with
    | false => rfl
    | true => have := h.wh hw; omega
  have hf := h.fin.2.2.1 hw
  exact ⟨hw, h.sane, h.htn, h.htil, h.trk, h.st, fun _ => by omega, ⟨h.fin.1, h.fin.2.1, (fun e => by cases e), fun _ => hf.1⟩, h.map1, h.map2⟩
theorem EL.notdone (h : EL j rows tk tn til now begun whole dn sd fd dx wi MA) : EL j rows tk tn til now begun whole dn sd fd dx (wi + 1) MA :=
  ⟨h.sane, h.htn, h.htil, h.trk, h.st, fun q => by have := h.wh q; omega, h.fin, h.map1, h.map2⟩
theorem EL.event (h : EL j rows tk tn til now begun whole dn sd fd dx wi MA) : (sd = 0 → evS begun dn false = 1) ∧ (0 < sd → evS begun dn false ≠ 1) := by
  rcases h.st with ⟨rfl, rfl⟩ | ⟨rfl, rfl⟩
  · exact ⟨fun _ => rfl, fun q => absurd q (Int.lt_irrefl 0)⟩
  · exact ⟨(fun q => by cases q), fun _ => by cases dn <;> decide⟩
theorem EL.free0 (h : EL j rows tk tn til now begun whole dn sd fd dx wi MA) (he : ev ≠ 2) : ∀ p ∈ flatF 0 (lsOf rows), 0 ≤ (freeS ev til (tk p.2.2)).1 := fun p hp => by
  have := (h.trk _ (mem_adr hp)).2.2.1
  have h2 := free_lo (til := til) he (tk p.2.2)
  omega
theorem EL.some (h : EL j rows tk tn til now begun whole dn sd fd dx wi MA) (he : ev ≠ 2) : ∀ n, whenF ev til tk (flatF 0 (lsOf rows)) ≤ n → ∃ p : Pl, p ∈ flatF 0 (lsOf rows) ∧ okS ev til n (tk p.2.2) = true := fun n hn => by
  obtain ⟨p0, hp0⟩ := h.sane.flat
  rcases whenF_spec (h.free0 he) with ⟨_, h2⟩ | ⟨h1, ⟨p, hp, _, hp3⟩, h3⟩
  · have := h2 p0 hp0
    rw [free_yes he] at this; cases this
  · exact ⟨p, hp, (ok_iff he _).2 (by omega)⟩
theorem EL.fail (h : EL j rows tk tn til now begun whole dn sd fd dx wi MA) {x : Nat} (hx : x ∈ adr rows) {w : Int} (hw : now ≤ w) (hw2 : w ≤ 999999000) (he : ev ≠ 2) :
    EL (j + 1) rows (upd tk x ⟨(tk x).name, (tk x).failed + 1, w + waitS ((tk x).failed + 1), (tk x).ans, (tk x).told || decide (ev = 2)⟩) w til w begun whole dn sd fd dx wi MA := by
  have hx0 := h.trk x hx
  have hws := waitS_ge ((tk x).failed + 1) (by omega)
  have ht := h.htn
  refine ⟨h.sane.setT rfl, by omega, h.htil, fun y hy => ?_, h.st, h.wh, h.fin, fun y hy => ?_, fun s b hs => ?_⟩
  · by_cases e : y = x
    · subst e; rw [upd_same]
      refine ⟨?_, ?_, ?_, ?_⟩ <;> dsimp only
      · omega
      · omega
      · omega
      · rw [hx0.2.2.2, decide_eq_false he]; rfl
    · rw [upd_ne e]
      obtain ⟨q1, q2, q3, q4⟩ := h.trk y hy
      exact ⟨q1, by omega, q3, q4⟩
  · by_cases e : y = x
    · subst e; rw [upd_same]; exact h.map1 y hy
    · rw [upd_ne e]; exact h.map1 y hy
  · obtain ⟨hb, y, hy, hn⟩ := h.map2 s b hs
    refine ⟨hb, y, hy, ?_⟩
    by_cases e : y = x
    · subst e; rw [upd_same]; exact hn
    · rw [upd_ne e]; exact hn
theorem EL.answer (h : EL j rows tk tn til now begun whole dn sd fd dx wi MA) {x : Nat} (hx : x ∈ adr rows) {w iv : Int} (hw : now ≤ w) (hw2 : w ≤ 999999000) (hi : 0 ≤ iv) (hev : ev = evS begun dn false) {sd' fd' : Int}
    (hs : (ev = 1 ∧ sd' = sd + 1 ∧ fd' = fd) ∨ (ev ≠ 1 ∧ ev = 3 ∧ sd' = sd ∧ fd' = fd + 1) ∨ (ev ≠ 1 ∧ ev ≠ 3 ∧ sd' = sd ∧ fd' = fd)) :
    EL (j + 1) (rows.map (frontR x)) (upd tk x ⟨(tk x).name, 0, 0, true, false⟩) w (w + iv) w (begun || decide (ev = 1)) whole (dn && !decide (ev = 3)) sd' fd' dx wi (upM MA (tk x).name true) := by
  have hp := adr_front x rows
  have ht := h.htn
  refine ⟨(h.sane.front x).setT rfl, by omega, by omega, fun y hy => ?_, ?_, h.wh, ?_, fun y hy => ?_, fun s b hsb => ?_⟩
  · have hy2 := hp.mem_iff.1 hy
    by_cases e : y = x
    · subst e; rw [upd_same]
      refine ⟨Int.le_refl _, ?_, Int.le_refl _, rfl⟩; dsimp only; omega
    · rw [upd_ne e]
      obtain ⟨q1, q2, q3, q4⟩ := h.trk y hy2
      exact ⟨q1, by omega, q3, q4⟩
  · rcases h.st with ⟨rfl, rfl⟩ | ⟨rfl, rfl⟩
    · have e1 : ev = 1 := by rw [hev]; rfl
      rcases hs with ⟨_, q, _⟩ | ⟨q, _⟩ | ⟨q, _⟩
      · exact .inr ⟨by rw [decide_eq_true e1]; rfl, by omega⟩
      · exact absurd e1 q
      · exact absurd e1 q
    · have e1 : ev ≠ 1 := by rw [hev]; cases dn <;> decide
      rcases hs with ⟨q, _⟩ | ⟨_, _, q, _⟩ | ⟨_, _, q, _⟩
      · exact absurd q e1
      · exact .inr ⟨rfl, q⟩
      · exact .inr ⟨rfl, q⟩
  · obtain ⟨f1, f2, f3, f4⟩ := h.fin
    have h3 : ev = 3 → dn = true := fun q => by
      rw [hev] at q
      revert q
      cases begun <;> cases dn <;> decide
    have hdn : ∀ {p : Prop} [Decidable p], (dn && decide p) = true → dn = true := fun q => by
      cases dn with
      | true => rfl
      | false => cases q
    rcases hs with ⟨q, q1, rfl⟩ | ⟨q, q3, q1, rfl⟩ | ⟨q, q3, q1, rfl⟩
    · refine ⟨f1, f2, fun e => ?_, fun e => f4 ?_⟩
      · obtain ⟨a, b⟩ := f3 e
        exact ⟨a, by rw [b]; rfl⟩
      · cases dn with
        | true => rfl
        | false => cases e
    · have hd := h3 q3
      have := f4 hd
      refine ⟨by omega, by omega, fun e => ?_, fun e => ?_⟩
      · obtain ⟨a, b⟩ := f3 e
        rw [b] at hd; cases hd
      · rw [decide_eq_true q3, hd] at e; cases e
    · refine ⟨f1, f2, fun e => ?_, fun e => f4 ?_⟩
      · obtain ⟨a, b⟩ := f3 e
        exact ⟨a, by rw [b]; rfl⟩
      · cases dn with
        | true => rfl
        | false => cases e
  · have hy2 := hp.mem_iff.1 hy
    by_cases e : y = x
    · subst e; rw [upd_same]
      show (upM MA (tk y).name true (tk y).name).getD false = true
      unfold upM; rw [if_pos rfl]; rfl
    · rw [upd_ne e]
      have hne : ¬ (tk y).name = (tk x).name := fun q => e (h.sane.inj hy2 hx q)
      unfold upM; rw [if_neg hne]; exact h.map1 y hy2
  · have hnm : ∀ y, (upd tk x ⟨(tk x).name, 0, 0, true, false⟩ y).name = (tk y).name := fun y => by
      by_cases e : y = x
      · subst e; rw [upd_same]
      · rw [upd_ne e]
    unfold upM at hsb
    split at hsb
    · rename_i e
      cases hsb
      exact ⟨rfl, x, hp.mem_iff.2 hx, by rw [hnm]; exact e.symm⟩
    · obtain ⟨hb, y, hy, hn⟩ := h.map2 s b hsb
      exact ⟨hb, y, hp.mem_iff.2 hy, by rw [hnm]; exact hn⟩
end
/-- When all stops. -/
def untold (rows : Rws) (tk : Nat → Tk) : Nat := (adr rows).countP fun x => !(tk x).told
structure ES (rows : Rws) (tk : Nat → Tk) (tn now : Int) (MA MT : ByteArray → Option Bool) : Prop where
  sane : Sane rows tk
  htn : 0 ≤ tn ∧ tn ≤ now ∧ now ≤ 999999000
  trk : ∀ x ∈ adr rows, 0 ≤ (tk x).failed ∧ (tk x).failed + untold rows tk ≤ 1000 ∧ 0 ≤ (tk x).after
  map1 : ∀ x ∈ adr rows, (MA (tk x).name).getD false = (tk x).ans
  map2 : ∀ s b, MA s = some b → b = true ∧ ∃ x ∈ adr rows, (tk x).name = s
  t1 : ∀ x ∈ adr rows, (MT (tk x).name).getD false = (tk x).told
  t2 : ∀ s b, MT s = some b → b = true ∧ ∃ x ∈ adr rows, (tk x).name = s ∧ (tk x).ans = true
theorem adr_len {rows : Rws} {b : Nat} (h : ∀ r ∈ rows, r.l.length ≤ b) : (adr rows).length ≤ rows.length * b := by
  induction rows with
  | nil => simp [adr, lsOf]
  | cons r rows ih =>
    show (r.l ++ adr rows).length ≤ _
    rw [List.length_append, List.length_cons, Nat.succ_mul]
    have h1 := h r (List.mem_cons_self ..)
    have h2 := ih (fun q hq => h q (List.mem_cons_of_mem _ hq))
    omega
theorem Sane.adrLen {rows : Rws} {tk : Nat → Tk} (h : Sane rows tk) : (adr rows).length ≤ 400 := by
  have h1 := adr_len (b := 20) (fun r hr => (h.lens r hr).2)
  have h2 := h.rl.2
  have h3 := Nat.mul_le_mul_right 20 h2
  omega
section
variable {j wi : Nat} {rows : Rws} {tk : Nat → Tk} {tn til now sd fd dx ev : Int} {begun whole dn : Bool} {MA MT : ByteArray → Option Bool}
theorem EL.stop (h : EL j rows tk tn til now begun whole dn sd fd dx wi MA) (hj : j ≤ 60) : ES rows tk tn now MA (fun _ => none) := by
  have hl := h.sane.adrLen
  have hc : untold rows tk ≤ (adr rows).length := List.countP_le_length
  refine ⟨h.sane, h.htn, fun x hx => ?_, h.map1, h.map2, fun x hx => ?_, (fun s b hs => by cases hs)⟩
  · have := h.trk x hx
    omega
  · rw [(h.trk x hx).2.2.2]; rfl
theorem ok_stop {t : Tk} {n : Int} (hn : 0 ≤ n) : okS 2 til n t = (t.ans && !t.told) := by
  unfold okS freeS
  rw [if_pos rfl]
  show (t.ans && !t.told && decide ((0 : Int) ≤ n)) = _
  rw [decide_eq_true hn, Bool.and_true]
theorem untold_upd {x : Nat} {a : Tk} (hn : (adr rows).Nodup) (hx : x ∈ adr rows) (h0 : (tk x).told = false) (h1 : a.told = true) : untold rows (upd tk x a) + 1 = untold rows tk := by
  unfold untold
  have key : ∀ l : List Nat, l.Nodup → (x ∈ l → (l.countP fun y => !(upd tk x a y).told) + 1 = l.countP fun y => !(tk y).told) ∧ (x ∉ l → (l.countP fun y => !(upd tk x a y).told) = l.countP fun y => !(tk y).told) := by
    intro l
    induction l with
    | nil => intro _; exact ⟨(fun h => by cases h), fun _ => rfl⟩
    | cons y l ih =>
      intro hnd
      obtain ⟨hy, hnd⟩ := List.nodup_cons.1 hnd
      obtain ⟨i1, i2⟩ := ih hnd
      refine ⟨fun hm => ?_, fun hm => ?_⟩
      · rcases List.mem_cons.1 hm with rfl | hm
        · rw [List.countP_cons, List.countP_cons, i2 hy, upd_same, h0, h1]; simp
        · have e : ¬ y = x := fun e => hy (e ▸ hm)
          rw [List.countP_cons, List.countP_cons, upd_ne e, ← i1 hm]; omega
      · have e : ¬ y = x := fun e => hm (e ▸ List.mem_cons_self ..)
        rw [List.countP_cons, List.countP_cons, upd_ne e, i2 (fun q => hm (List.mem_cons_of_mem _ q))]
  exact (key _ hn).1 hx
theorem nodup_of {α β : Type} {f : α → β} : ∀ {l : List α}, (l.map f).Nodup → l.Nodup
  | [], _ => .nil
  | x :: l, h => by
    rw [List.map_cons, List.nodup_cons] at h
    exact List.nodup_cons.2 ⟨fun hx => h.1 (List.mem_map_of_mem hx), nodup_of h.2⟩
theorem Sane.nodup (h : Sane rows tk) : (adr rows).Nodup := nodup_of h.names
theorem ES.tell (h : ES rows tk tn now MA MT) {x : Nat} (hx : x ∈ adr rows) (hok : okS 2 til now (tk x) = true) :
    (MT (tk x).name).getD false = false ∧ (MA (tk x).name).getD false = true ∧ (tk x).failed ≤ 1000 ∧ untold rows (upd tk x ⟨(tk x).name, (tk x).failed + 1, now + waitS ((tk x).failed + 1), (tk x).ans, (tk x).told || decide ((2 : Int) = 2)⟩) < untold rows tk ∧
    ES rows (upd tk x ⟨(tk x).name, (tk x).failed + 1, now + waitS ((tk x).failed + 1), (tk x).ans, (tk x).told || decide ((2 : Int) = 2)⟩) now now MA (upM MT (tk x).name true) := by
  have ht := h.htn
  rw [ok_stop (by omega)] at hok
  simp only [Bool.and_eq_true, Bool.not_eq_true'] at hok
  obtain ⟨ha, hto⟩ := hok
  have hx0 := h.trk x hx
  have hws := waitS_ge ((tk x).failed + 1) (by omega)
  have hu := untold_upd (a := ⟨(tk x).name, (tk x).failed + 1, now + waitS ((tk x).failed + 1), (tk x).ans, (tk x).told || decide ((2 : Int) = 2)⟩) h.sane.nodup hx hto (by show ((tk x).told || decide ((2 : Int) = 2)) = true; rw [hto]; rfl)
  refine ⟨by rw [h.t1 x hx]; exact hto, by rw [h.map1 x hx]; exact ha, by omega, by omega, h.sane.setT rfl, by omega, fun y hy => ?_, fun y hy => ?_, fun s b hs => ?_, fun y hy => ?_, fun s b hs => ?_⟩
  · by_cases e : y = x
    · subst e; rw [upd_same]
      refine ⟨?_, ?_, ?_⟩
      · show 0 ≤ (tk y).failed + 1; omega
      · show (tk y).failed + 1 + _ ≤ (1000 : Int); omega
      · show 0 ≤ now + waitS ((tk y).failed + 1); omega
    · rw [upd_ne e]
      have := h.trk y hy
      omega
  · by_cases e : y = x
    · subst e; rw [upd_same]; exact h.map1 y hy
    · rw [upd_ne e]; exact h.map1 y hy
  · obtain ⟨hb, y, hy, hn⟩ := h.map2 s b hs
    refine ⟨hb, y, hy, ?_⟩
    by_cases e : y = x
    · subst e; rw [upd_same]; exact hn
    · rw [upd_ne e]; exact hn
  · by_cases e : y = x
    · subst e; rw [upd_same]
      show (upM MT (tk y).name true (tk y).name).getD false = ((tk y).told || decide ((2 : Int) = 2))
      unfold upM; rw [if_pos rfl, hto]; rfl
    · rw [upd_ne e]
      have hne : ¬ (tk y).name = (tk x).name := fun q => e (h.sane.inj hy hx q)
      unfold upM; rw [if_neg hne]; exact h.t1 y hy
  · unfold upM at hs
    split at hs
    · rename_i e
      cases hs
      exact ⟨rfl, x, hx, by rw [upd_same]; exact e.symm, by rw [upd_same]; exact ha⟩
    · obtain ⟨hb, y, hy, hn, hya⟩ := h.t2 s b hs
      refine ⟨hb, y, hy, ?_, ?_⟩
      · by_cases e : y = x
        · subst e; rw [upd_same]; exact hn
        · rw [upd_ne e]; exact hn
      · by_cases e : y = x
        · subst e; rw [upd_same]; exact hya
        · rw [upd_ne e]; exact hya
theorem ES.same (h : ES rows tk tn now MA MT) (hno : ∀ p : Pl, p ∈ flatF 0 (lsOf rows) → okS 2 til now (tk p.2.2) = false) {n1 n2 : Nat} (h1 : KN okT MT n1) (h2 : KN okT MA n2) : n1 = n2 := by
  have ht := h.htn
  refine KN_eq h1 h2 fun s hs => ⟨fun q => ?_, fun q => ?_⟩
  · obtain ⟨b, hb⟩ := Option.isSome_iff_exists.1 q
    obtain ⟨_, x, hx, rfl, ha⟩ := h.t2 s b hb
    have := h.map1 x hx
    rw [ha] at this
    cases hm : MA (tk x).name with
    | none => rw [hm] at this; cases this
    | some v => rfl
  · obtain ⟨b, hb⟩ := Option.isSome_iff_exists.1 q
    obtain ⟨rfl, x, hx, rfl⟩ := h.map2 s b hb
    have ha := h.map1 x hx
    rw [hb] at ha
    obtain ⟨p, hp, rfl⟩ := adr_flat hx
    have hn := hno p hp
    rw [ok_stop (by omega), ← ha] at hn
    have hto : (tk p.2.2).told = true := by simpa using hn
    have := h.t1 _ hx
    rw [hto] at this
    cases hm : MT (tk p.2.2).name with
    | none => rw [hm] at this; cases this
    | some v => rfl
end
theorem el_start {rows : Rws} {tk : Nat → Tk} {tn now fd dx : Int} {whole : Bool} {wi : Nat} (hs : Sane rows tk) (hz : ∀ x ∈ adr rows, tk x = zeroT (tk x)) (ht : 0 ≤ tn ∧ tn ≤ now ∧ now ≤ 999999000) (hw : whole = true → dx < wi) (hf : 0 ≤ fd ∧ fd ≤ 1 ∧ (whole = false → fd = 0)) :
    EL 0 rows tk tn 0 now false whole false 0 fd dx wi (fun _ => none) := by
  refine ⟨hs, ht, Int.le_refl _, fun x hx => ?_, .inl ⟨rfl, rfl⟩, hw, ⟨hf.1, hf.2.1, fun e => ⟨hf.2.2 e, rfl⟩, (fun e => by cases e)⟩, fun x hx => ?_, (fun s b hs => by cases hs)⟩
  · rw [hz x hx]; exact ⟨Int.le_refl _, Int.le_refl _, Int.le_refl _, rfl⟩
  · rw [hz x hx]; rfl
theorem sane_zero {rows : Rws} {tk : Nat → Tk} (h : Sane rows tk) : Sane rows (fun y => zeroT (tk y)) := ⟨h.rl, h.lens, h.names, h.text⟩
end Go.Proofs.Ytibdlnjnomikjaa
