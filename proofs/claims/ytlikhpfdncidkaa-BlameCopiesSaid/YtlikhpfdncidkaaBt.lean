import Derived.Test.YtlikhpfdncidkaaBs
import Derived.Test.YtlikhpfdncidkaaGk
set_option linter.unusedSimpArgs false
set_option linter.unusedVariables false
namespace Go.Proofs.Ytlikhpfdncidkaa
open Go.RowKit
open Go.Maps (Keyed)

/-! ## What the deeds do, in plain words -/
def newL (bn : Int → Option Bool) (l : List Int) : List Int := (ascI l).filter fun p => !((bn p).getD false)
noncomputable def failL (t : Tr) : List Int := if (whoL t).length ≤ 1 then whoL t else []
def lastTen {α : Type} (l : List α) : List α := l.drop (l.length - 10)
theorem lastTen_len {α : Type} (l : List α) : (lastTen l).length ≤ 10 := by unfold lastTen; rw [List.length_drop]; omega
theorem lastTen_mem {α : Type} {l : List α} {x : α} (h : x ∈ lastTen l) : x ∈ l := List.mem_of_mem_drop h
theorem lastTen_map {α β : Type} (f : α → β) (l : List α) : lastTen (l.map f) = (lastTen l).map f := by unfold lastTen; rw [List.length_map, List.map_drop]
def differ (right t : Tr) (p : Int) : Prop := ∃ s d y d', okP s ∧ t s = some (p, d) ∧ right s = some (y, d') ∧ ¬ d' = d
noncomputable def gB (right t : Tr) (p : Int) : Bool := (open Classical in decide (differ right t p)) || decide ((whoL t).length = 1)
theorem gB_of {right t : Tr} {p : Int} {b : Bool} (h : b = true ↔ differ right t p) : (b || decide ((whoL t).length = 1)) = gB right t p := by
  have : b = (open Classical in decide (differ right t p)) := by
    by_cases hd : differ right t p
    · rw [@decide_eq_true _ (_) hd]; exact h.2 hd
    · rw [@decide_eq_false _ (_) hd]
      cases hb : b with
      | false => rfl
      | true => exact absurd (h.1 hb) hd
  unfold gB; rw [this]
noncomputable def outL (right : Tr) (T : List Tr) : List Int := T.flatMap fun t => (whoL t).filter (gB right t)
noncomputable def scS (right : Tr) (x s : Int) (t : Tr) : Int := if x ∈ whoL t ∧ gB right t x = false then IntKind.i64.wrap (s - 1) else s
noncomputable def scJ (right : Tr) (T : List Tr) (s x : Int) : Int := T.foldl (scS right x) s
theorem outL_snoc {right t : Tr} {T : List Tr} : outL right (T ++ [t]) = outL right T ++ (whoL t).filter (gB right t) := by unfold outL; rw [List.flatMap_append]; simp
theorem scJ_snoc {right t : Tr} {T : List Tr} {s x : Int} : scJ right (T ++ [t]) s x = scS right x (scJ right T s x) t := by unfold scJ; rw [List.foldl_append]; rfl
theorem outL_in {right : Tr} {T : List Tr} (h : ∀ t ∈ T, Tok t) {x : Int} (hx : x ∈ outL right T) : 1 ≤ x ∧ x ≤ 1000 := by
  obtain ⟨t, ht, h2⟩ := List.mem_flatMap.1 hx
  exact (h t ht).whoIn (List.mem_filter.1 h2).1
theorem outL_len {right : Tr} : ∀ {T : List Tr}, (∀ t ∈ T, Tok t) → (outL right T).length ≤ 1001 * T.length
  | [], _ => Nat.zero_le _
  | t :: T, h => by
    have h1 := outL_len (right := right) fun t ht => h t (List.mem_cons_of_mem _ ht)
    have h2 := (h t (List.mem_cons_self ..)).whoLen
    have h3 := List.length_filter_le (gB right t) (whoL t)
    unfold outL at h1 ⊢
    rw [List.flatMap_cons, List.length_append, List.length_cons]
    omega
variable {nw : Int → Option Nat} {od : Int → Option (Ro Nat)} {rs : List (Ro Nat)} {ms : List Nat} {ct : Nat → Tr}
/-! a block is noted -/
structure Sent5 (nw nw' : Int → Option Nat) (od : Int → Option (Ro Nat)) (rs : List (Ro Nat)) (ms' : List Nat) (ct ct' : Nat → Tr) (i : Int) (s : Sp) (v : Sn) : Prop where
  bi : BI nw' od rs ms' ct'
  now : ∀ j, nwA nw' ct' j = if j = i then upM (nwA nw ct i) s v else nwA nw ct j
  old : odA od ct' = odA od ct
theorem nwA_some {i : Int} {m : Nat} (h : nw i = some m) : nwA nw ct i = ct m := by unfold nwA; rw [h]; rfl
theorem sent_some (h : BI nw od rs ms ct) {i : Int} {m : Nat} (hn : nw i = some m) {s : Sp} {v : Sn} (ht : Tok (upM (ct m) s v)) : Sent5 nw nw od rs ms ct (upd ct m (upM (ct m) s v)) i s v := by
  refine ⟨⟨h.nwm, h.odr, h.rln, h.rms, fun x hx => ?_, h.nwo, h.nwj⟩, fun j => ?_, ?_⟩
  · by_cases e : x = m
    · subst e; rw [upd_same]; exact ht
    · rw [upd_ne e]; exact h.tok x hx
  · split
    · rename_i e; subst e; rw [nwA_some hn, nwA_some hn, upd_same]
    · rename_i e
      unfold nwA
      cases hj : nw j with
      | none => rfl
      | some x => exact upd_ne (fun e2 => e (h.nwj _ _ _ hj (e2 ▸ hn)))
  · funext j
    unfold odA
    refine List.map_congr_left fun x hx => upd_ne fun e => ?_
    subst e
    unfold odR at hx
    cases ho : od j with
    | none => rw [ho] at hx; cases hx
    | some r => rw [ho] at hx; exact h.nwo _ _ hn r (h.odr j r ho) hx
theorem sent_none (h : BI nw od rs ms ct) {i : Int} {g : Nat} (hn : nw i = none) (hg : g ∉ ms) {s : Sp} {v : Sn} (ht : Tok (upM noT s v)) : Sent5 nw (upM nw i g) od rs (g :: ms) ct (upd ct g (upM noT s v)) i s v := by
  refine ⟨⟨fun j m hm => ?_, h.odr, h.rln, fun r hr m hm => List.mem_cons_of_mem _ (h.rms r hr m hm), fun x hx => ?_, fun j m hm r hr hm2 => ?_, fun j k m hj hk => ?_⟩, fun j => ?_, ?_⟩
  · unfold upM at hm
    split at hm
    · cases hm; exact List.mem_cons_self ..
    · exact List.mem_cons_of_mem _ (h.nwm _ _ hm)
  · by_cases e : x = g
    · subst e; rw [upd_same]; exact ht
    · rw [upd_ne e]
      rcases List.mem_cons.1 hx with h1 | h1
      · exact absurd h1 e
      · exact h.tok x h1
  · unfold upM at hm
    split at hm
    · cases hm; exact hg (h.rms r hr _ hm2)
    · exact h.nwo _ _ hm r hr hm2
  · unfold upM at hj hk
    split at hj <;> split at hk
    · rename_i e1 e2; rw [e1, e2]
    · cases hj; exact absurd (h.nwm _ _ hk) hg
    · cases hk; exact absurd (h.nwm _ _ hj) hg
    · exact h.nwj _ _ _ hj hk
  · unfold nwA upM
    split
    · rename_i e; subst e
      rw [hn]
      show upd ct g _ g = _
      rw [upd_same]; rfl
    · cases hj : nw j with
      | none => rfl
      | some x => exact upd_ne fun e2 => hg (e2 ▸ h.nwm _ _ hj)
  · funext j
    unfold odA
    exact List.map_congr_left fun x hx => upd_ne fun e => hg (e ▸ h.odIn hx)
/-! a block is taken back -/
theorem BI.take (h : BI nw od rs ms ct) {i : Int} {m : Nat} (hn : nw i = some m) (s : Sp) : BI nw od rs ms (upd ct m (delM (ct m) s)) ∧ (∀ j, nwA nw (upd ct m (delM (ct m) s)) j = if j = i then delM (nwA nw ct i) s else nwA nw ct j) ∧ odA od (upd ct m (delM (ct m) s)) = odA od ct := by
  refine ⟨⟨h.nwm, h.odr, h.rln, h.rms, fun x hx => ?_, h.nwo, h.nwj⟩, fun j => ?_, ?_⟩
  · by_cases e : x = m
    · subst e; rw [upd_same]; exact (h.tok x hx).del s
    · rw [upd_ne e]; exact h.tok x hx
  · split
    · rename_i e; subst e; rw [nwA_some hn, nwA_some hn, upd_same]
    · rename_i e
      unfold nwA
      cases hj : nw j with
      | none => rfl
      | some x => exact upd_ne (fun e2 => e (h.nwj _ _ _ hj (e2 ▸ hn)))
  · funext j
    unfold odA
    refine List.map_congr_left fun x hx => upd_ne fun e => ?_
    subst e
    unfold odR at hx
    cases ho : od j with
    | none => rw [ho] at hx; cases hx
    | some r => rw [ho] at hx; exact h.nwo _ _ hn r (h.odr j r ho) hx
/-! a try ends -/
theorem BI.drop (h : BI nw od rs ms ct) (i : Int) : BI (delM nw i) od rs ms ct := by
  have k : ∀ j m, delM nw i j = some m → nw j = some m := fun j m hm => by
    unfold delM at hm
    split at hm
    · cases hm
    · exact hm
  exact ⟨fun j m hm => h.nwm _ _ (k _ _ hm), h.odr, h.rln, h.rms, h.tok, fun j m hm => h.nwo _ _ (k _ _ hm), fun a b m ha hb => h.nwj _ _ _ (k _ _ ha) (k _ _ hb)⟩
theorem nwA_del {i : Int} : ∀ j, nwA (delM nw i) ct j = if j = i then noT else nwA nw ct j := fun j => by
  unfold nwA delM
  split <;> rfl
theorem BI.fail (h : BI nw od rs ms ct) {i : Int} {m : Nat} (hn : nw i = some m) {r : Ro Nat} (hr : r.l = lastTen (odR od i ++ [m])) : BI (delM nw i) (upM od i r) (rs ++ [r]) ms ct := by
  have hms : ∀ x ∈ r.l, x ∈ odR od i ∨ x = m := fun x hx => by
    rw [hr] at hx
    rcases List.mem_append.1 (lastTen_mem hx) with h1 | h1
    · exact .inl h1
    · exact .inr (List.mem_singleton.1 h1)
  refine ⟨(h.drop i).nwm, fun j r' hj => ?_, fun r' hr' => ?_, fun r' hr' x hx => ?_, h.tok, fun j x hx r' hr' hm => ?_, (h.drop i).nwj⟩
  · unfold upM at hj
    split at hj
    · cases hj; exact List.mem_append_right _ (by simp)
    · exact List.mem_append_left _ (h.odr _ _ hj)
  · rcases List.mem_append.1 hr' with h1 | h1
    · exact h.rln _ h1
    · rw [List.mem_singleton] at h1; subst h1; rw [hr]; exact lastTen_len _
  · rcases List.mem_append.1 hr' with h1 | h1
    · exact h.rms _ h1 _ hx
    · rw [List.mem_singleton] at h1; subst h1
      rcases hms x hx with h2 | rfl
      · exact h.odIn h2
      · exact h.nwm _ _ hn
  · rcases List.mem_append.1 hr' with h1 | h1
    · exact (h.drop i).nwo _ _ hx r' h1 hm
    · rw [List.mem_singleton] at h1; subst h1
      have hji : ¬ j = i ∧ nw j = some x := by
        unfold delM at hx
        split at hx
        · cases hx
        · rename_i e; exact ⟨e, hx⟩
      rcases hms x hm with h2 | rfl
      · unfold odR at h2
        cases ho : od i with
        | none => rw [ho] at h2; cases h2
        | some r2 => rw [ho] at h2; exact h.nwo _ _ hji.2 r2 (h.odr i r2 ho) h2
      · exact hji.1 (h.nwj _ _ _ hji.2 hn)
theorem odA_up {i : Int} {r : Ro Nat} : ∀ j, odA (upM od i r) ct j = if j = i then r.l.map ct else odA od ct j := fun j => by
  by_cases e : j = i
  · simp only [odA, odR, upM, if_pos e]
  · simp only [odA, odR, upM, if_neg e]
theorem BI.good (h : BI nw od rs ms ct) (i : Int) : BI (delM nw i) (delM od i) rs ms ct :=
  ⟨(h.drop i).nwm, fun j r hj => by
    unfold delM at hj
    split at hj
    · cases hj
    · exact h.odr _ _ hj, h.rln, h.rms, h.tok, (h.drop i).nwo, (h.drop i).nwj⟩
theorem odA_del {i : Int} : ∀ j, odA (delM od i) ct j = if j = i then [] else odA od ct j := fun j => by
  by_cases e : j = i
  · simp only [odA, odR, delM, if_pos e, List.map_nil]
  · simp only [odA, odR, delM, if_neg e]
end Go.Proofs.Ytlikhpfdncidkaa
