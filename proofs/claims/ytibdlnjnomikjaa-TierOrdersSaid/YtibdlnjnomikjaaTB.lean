import Derived.Test.YtibdlnjnomikjaaSs
set_option linter.unusedSimpArgs false
set_option linter.unusedVariables false
namespace Go.Proofs.Ytibdlnjnomikjaa
open Go.RowKit

/-! ## TierOrders, in plain words -/
theorem ordS_same {l m : List ByteArray} (h : l.Perm m) : ordS l = ordS m := by
  unfold ordS
  rw [sortS_same h, h.length_eq]
theorem ordS_len (l : List ByteArray) : (ordS l).length ≤ l.length := dedTo_len _ _
theorem flat_pre {ls : List (List Nat)} {i k x : Nat} {pre post : List Pl} (h : flatF 0 ls = pre ++ (i, k, x) :: post) {p : Pl} (hp : p ∈ flatF 0 ls) (hi : p.1 < i) : p ∈ pre := by
  have hs := flatF_sorted ls 0
  rw [h] at hp hs
  rcases List.mem_append.1 hp with hp | hp
  · exact hp
  · rcases List.mem_cons.1 hp with rfl | hp
    · exact absurd hi (Nat.lt_irrefl _)
    · have h1 := (List.pairwise_append.1 hs).2.1
      have h2 := (List.pairwise_cons.1 h1).1 p hp
      rcases h2 with h2 | ⟨h2, _⟩
      · exact absurd h2 (Nat.not_lt.2 (Nat.le_of_lt hi))
      · have h3 : i = p.1 := h2
        omega
theorem waits_of {ev til n : Int} {tx ty : Tk} (he : ev ≠ 2) (hx : okS ev til n tx = true) (hy : okS ev til n ty = false) : n < ty.after := by
  have h1 := (ok_iff he tx).1 hx
  have h2 : ¬ (freeS ev til ty).1 ≤ n := fun q => by rw [(ok_iff he ty).2 q] at hy; cases hy
  unfold freeS at h1 h2
  rw [if_neg he] at h1 h2
  by_cases h0 : ev = 0
  · rw [if_pos h0] at h1 h2
    have h3 : max tx.after til ≤ n := h1
    have h4 : ¬ max ty.after til ≤ n := h2
    omega
  · rw [if_neg h0] at h1 h2
    have h4 : ¬ ty.after ≤ n := h2
    omega
theorem mem_place {rows : Rws} {i k x : Nat} {r : Ro Nat} (hr : rows[i]? = some r) (hk : r.l[k]? = some x) : ((i, k, x) : Pl) ∈ flatF 0 (lsOf rows) :=
  mem_flatF.2 ⟨Nat.zero_le _, r.l, by unfold lsOf; rw [List.getElem?_map, Nat.sub_zero, hr]; rfl, hk⟩
structure OI (z : Nat) (ls : List (Ro ByteArray)) (rows : Rws) (tk : Nat → Tk) (tn til now : Int) (MU MF : ByteArray → Option Int) : Prop where
  sane : Sane rows tk
  htn : 0 ≤ tn ∧ tn ≤ now ∧ now ≤ 1000000000
  htil : 0 ≤ til
  trk : ∀ x ∈ adr rows, 0 ≤ (tk x).failed ∧ (tk x).failed ≤ z ∧ 0 ≤ (tk x).after
  mu : ∀ x ∈ adr rows, (MU (tk x).name).getD 0 = (tk x).after
  mf : ∀ x ∈ adr rows, (MF (tk x).name).getD 0 = (tk x).failed
  perm : ∀ (i : Nat) r q, rows[i]? = some r → ls[i]? = some q → (namesT tk r.l).Perm q.l
  len : rows.length = ls.length
section
variable {z : Nat} {ls : List (Ro ByteArray)} {rows : Rws} {tk : Nat → Tk} {tn til now ev : Int} {MU MF : ByteArray → Option Int}
theorem oi_start {seed : ByteArray} {M : ByteArray → Option Nat} (hs : Sane rows tk) (h : NewI seed ls ls.length rows [] 0 tk M) : OI 0 ls rows tk 0 0 0 (fun _ => none) (fun _ => none) := by
  have hf : ∀ x ∈ adr rows, tk x = zeroT (tk x) := fun x hx => h.fresh x (List.mem_append_left _ hx)
  refine ⟨hs, by omega, Int.le_refl _, fun x hx => ?_, fun x hx => ?_, fun x hx => ?_, fun i r q hr hq => ?_, h.rowsLen (Nat.le_refl _)⟩
  · rw [hf x hx]; exact ⟨Int.le_refl _, Int.le_refl _, Int.le_refl _⟩
  · rw [hf x hx]; rfl
  · rw [hf x hx]; rfl
  · have hn := h.nms
    rw [List.take_length] at hn
    have h1 : (rows.map fun r => namesT tk r.l)[i]? = some (namesT tk r.l) := by rw [List.getElem?_map, hr]; rfl
    rw [hn, List.getElem?_map, hq] at h1
    have h2 : sortN seed q.l = namesT tk r.l := Option.some.inj h1
    rw [← h2]
    exact sortN_perm seed q.l
theorem OI.free0 (h : OI z ls rows tk tn til now MU MF) (he : ev ≠ 2) : ∀ p ∈ flatF 0 (lsOf rows), 0 ≤ (freeS ev til (tk p.2.2)).1 := fun p hp => by
  have := (h.trk _ (mem_adr hp)).2.2
  have h2 := free_lo (til := til) he (tk p.2.2)
  omega
theorem OI.some (h : OI z ls rows tk tn til now MU MF) (he : ev ≠ 2) : ∀ n, whenF ev til tk (flatF 0 (lsOf rows)) ≤ n → ∃ p : Pl, p ∈ flatF 0 (lsOf rows) ∧ okS ev til n (tk p.2.2) = true := fun n hn => by
  obtain ⟨p0, hp0⟩ := h.sane.flat
  rcases whenF_spec (h.free0 he) with ⟨_, h2⟩ | ⟨h1, ⟨p, hp, _, hp3⟩, h3⟩
  · have := h2 p0 hp0
    rw [free_yes he] at this; cases this
  · exact ⟨p, hp, (ok_iff he _).2 (by omega)⟩
theorem names_upd {x : Nat} {a : Tk} (ha : a.name = (tk x).name) (l : List Nat) : namesT (upd tk x a) l = namesT tk l :=
  List.map_congr_left fun y _ => by
    by_cases e : y = x
    · subst e; rw [upd_same]; exact ha
    · rw [upd_ne e]
theorem OI.fail (h : OI z ls rows tk tn til now MU MF) {x : Nat} (hx : x ∈ adr rows) {w : Int} (hw : now ≤ w) (hw2 : w ≤ 1000000000) (told : Bool) :
    OI (z + 1) ls rows (upd tk x ⟨(tk x).name, (tk x).failed + 1, w + waitS ((tk x).failed + 1), (tk x).ans, told⟩) w til w (upM MU (tk x).name (w + waitS ((MF (tk x).name).getD 0 + 1))) (upM MF (tk x).name ((MF (tk x).name).getD 0 + 1)) := by
  have hx0 := h.trk x hx
  have hws := waitS_ge ((tk x).failed + 1) (by omega)
  have ht := h.htn
  refine ⟨h.sane.setT rfl, by omega, h.htil, fun y hy => ?_, fun y hy => ?_, fun y hy => ?_, fun i r q hr hq => ?_, h.len⟩
  · by_cases e : y = x
    · subst e; rw [upd_same]
      refine ⟨?_, ?_, ?_⟩ <;> dsimp only <;> omega
    · rw [upd_ne e]
      obtain ⟨q1, q2, q3⟩ := h.trk y hy
      exact ⟨q1, by omega, q3⟩
  · by_cases e : y = x
    · subst e; rw [upd_same, h.mf y hy]
      show (upM MU (tk y).name _ (tk y).name).getD 0 = w + waitS ((tk y).failed + 1)
      unfold upM; rw [if_pos rfl]; rfl
    · rw [upd_ne e]
      have hne : ¬ (tk y).name = (tk x).name := fun q => e (h.sane.inj hy hx q)
      unfold upM; rw [if_neg hne]; exact h.mu y hy
  · by_cases e : y = x
    · subst e; rw [upd_same, h.mf y hy]
      show (upM MF (tk y).name _ (tk y).name).getD 0 = (tk y).failed + 1
      unfold upM; rw [if_pos rfl]; rfl
    · rw [upd_ne e]
      have hne : ¬ (tk y).name = (tk x).name := fun q => e (h.sane.inj hy hx q)
      unfold upM; rw [if_neg hne]; exact h.mf y hy
  · refine (show ∀ a : Tk, a.name = (tk x).name → (namesT (upd tk x a) r.l).Perm q.l from fun a ha => ?_) _ rfl
    rw [names_upd ha]; exact h.perm i r q hr hq
theorem OI.answer (h : OI z ls rows tk tn til now MU MF) {x : Nat} (hx : x ∈ adr rows) {w iv : Int} (hw : now ≤ w) (hw2 : w ≤ 1000000000) (hi : 0 ≤ iv) :
    OI (z + 1) ls (rows.map (frontR x)) (upd tk x ⟨(tk x).name, 0, 0, true, false⟩) w (w + iv) w (upM MU (tk x).name 0) (upM MF (tk x).name 0) := by
  have hp := adr_front x rows
  have ht := h.htn
  refine ⟨(h.sane.front x).setT rfl, by omega, by omega, fun y hy => ?_, fun y hy => ?_, fun y hy => ?_, fun i r q hr hq => ?_, by rw [List.length_map]; exact h.len⟩
  · have hy2 := hp.mem_iff.1 hy
    by_cases e : y = x
    · subst e; rw [upd_same]
      refine ⟨Int.le_refl _, ?_, Int.le_refl _⟩; dsimp only; omega
    · rw [upd_ne e]
      obtain ⟨q1, q2, q3⟩ := h.trk y hy2
      exact ⟨q1, by omega, q3⟩
  · have hy2 := hp.mem_iff.1 hy
    by_cases e : y = x
    · subst e; rw [upd_same]
      show (upM MU (tk y).name 0 (tk y).name).getD 0 = 0
      unfold upM; rw [if_pos rfl]; rfl
    · rw [upd_ne e]
      have hne : ¬ (tk y).name = (tk x).name := fun q => e (h.sane.inj hy2 hx q)
      unfold upM; rw [if_neg hne]; exact h.mu y hy2
  · have hy2 := hp.mem_iff.1 hy
    by_cases e : y = x
    · subst e; rw [upd_same]
      show (upM MF (tk y).name 0 (tk y).name).getD 0 = 0
      unfold upM; rw [if_pos rfl]; rfl
    · rw [upd_ne e]
      have hne : ¬ (tk y).name = (tk x).name := fun q => e (h.sane.inj hy2 hx q)
      unfold upM; rw [if_neg hne]; exact h.mf y hy2
  · refine (show ∀ a : Tk, a.name = (tk x).name → (namesT (upd tk x a) r.l).Perm q.l from fun a ha => ?_) _ rfl
    rw [names_upd ha]
    rw [List.getElem?_map] at hr
    cases hq2 : rows[i]? with
    | none => rw [hq2] at hr; cases hr
    | some r0 =>
      rw [hq2] at hr
      have e : frontR x r0 = r := Option.some.inj hr
      subst e
      exact ((frontL_perm x r0.l).map _).trans (h.perm i r0 q hq2 hq)
end
end Go.Proofs.Ytibdlnjnomikjaa
