import Derived.Test.YtlikhpfdncidkaaCl
set_option linter.unusedSimpArgs false
set_option linter.unusedVariables false
namespace Go.Proofs.Ytlikhpfdncidkaa
open Go.RowKit

/-! ## Copies, in plain words -/
instance okIdec (x : Int) : Decidable (okI x) := inferInstanceAs (Decidable (_ ∧ _))
/-- A state with nothing at keys that are no int. -/
def rst (A : BS) : BS := ⟨fun x => if okI x then A.sc x else 0, fun x => if okI x then A.bn x else false, fun i => if okI i then A.nw i else noT, fun i => if okI i then A.od i else []⟩
/-- A map of rows that is being copied. -/
structure CI {α : Type} (M : Int → Option (Ro α)) (rem0 rem : List (Int × Ro α)) (M2 : Int → Option (Ro α)) (bag : List (Ro α)) : Prop where
  a : ∀ i r', M2 i = some r' → okI i ∧ ∃ r, M i = some r ∧ r'.l = r.l ∧ r' ∈ bag
  b : ∀ z ∈ rem0, z ∉ rem → ∃ r', M2 z.1 = some r'
section
variable {α : Type} {M M2 : Int → Option (Ro α)} {rem0 rem rem2 : List (Int × Ro α)} {bag bag2 : List (Ro α)} {q : Int × Ro α}
theorem CI.start (M : Int → Option (Ro α)) (rem0 : List (Int × Ro α)) (bag : List (Ro α)) : CI M rem0 rem0 (fun _ => none) bag := ⟨fun _ _ h => (by cases h), fun z h1 h2 => absurd h1 h2⟩
theorem CI.next (h : CI M rem0 rem M2 bag) (hok : okI q.1) (hN : M q.1 = some q.2) (hm : ∀ z, z ∈ rem2 ↔ z ∈ rem ∧ z ≠ q) (hb : ∀ x ∈ bag, x ∈ bag2) {r : Ro α} (hr : r.l = q.2.l) (hi : r ∈ bag2) : CI M rem0 rem2 (upM M2 q.1 r) bag2 := by
  refine ⟨fun i r' hr' => ?_, fun z h1 h2 => ?_⟩
  · unfold upM at hr'
    split at hr'
    · rename_i e; cases hr'; subst e; exact ⟨hok, q.2, hN, hr, hi⟩
    · obtain ⟨a1, r, a2, a3, a4⟩ := h.a i r' hr'
      exact ⟨a1, r, a2, a3, hb _ a4⟩
  · unfold upM
    split
    · exact ⟨r, rfl⟩
    · rename_i e
      exact h.b z h1 fun h3 => h2 ((hm z).2 ⟨h3, fun e2 => e (by rw [e2])⟩)
theorem CI.all (h : CI M rem0 [] M2 bag) (h0 : ∀ p : Int × Ro α, p ∈ rem0 ↔ okI p.1 ∧ M p.1 = some p.2) : (∀ i, okI i → (roG (M2 i)).l = (roG (M i)).l) ∧ ∀ i, ¬ okI i → M2 i = none := by
  refine ⟨fun i hi => ?_, fun i hi => ?_⟩
  · cases hM : M i with
    | none =>
      cases hM2 : M2 i with
      | none => rfl
      | some r' =>
        obtain ⟨_, r, a, _⟩ := h.a i r' hM2
        rw [hM] at a; cases a
    | some r =>
      obtain ⟨r', hr'⟩ := h.b (i, r) ((h0 (i, r)).2 ⟨hi, hM⟩) (by simp)
      obtain ⟨_, r2, a1, a2, _⟩ := h.a i r' hr'
      rw [hM] at a1; cases a1
      rw [hr']; exact a2
  · cases hM2 : M2 i with
    | none => rfl
    | some r' => exact absurd (h.a i r' hM2).1 hi
end
/-- A map of plain things that is being copied. -/
structure CP {α : Type} (M : Int → Option α) (rem0 rem : List (Int × α)) (M2 : Int → Option α) : Prop where
  a : ∀ i v, M2 i = some v → okI i ∧ M i = some v
  b : ∀ z ∈ rem0, z ∉ rem → M2 z.1 = some z.2
section
variable {α : Type} {M M2 : Int → Option α} {rem0 rem rem2 : List (Int × α)} {q : Int × α}
theorem CP.start (M : Int → Option α) (rem0 : List (Int × α)) : CP M rem0 rem0 (fun _ => none) := ⟨fun _ _ h => (by cases h), fun z h1 h2 => absurd h1 h2⟩
theorem CP.next (h : CP M rem0 rem M2) (hok : okI q.1) (hN : M q.1 = some q.2) (h0 : ∀ p : Int × α, p ∈ rem0 ↔ okI p.1 ∧ M p.1 = some p.2) (hm : ∀ z, z ∈ rem2 ↔ z ∈ rem ∧ z ≠ q) : CP M rem0 rem2 (upM M2 q.1 q.2) := by
  refine ⟨fun i v hv => ?_, fun z h1 h2 => ?_⟩
  · unfold upM at hv
    split at hv
    · rename_i e; cases hv; subst e; exact ⟨hok, hN⟩
    · exact h.a i v hv
  · unfold upM
    split
    · rename_i e
      have h3 := ((h0 z).1 h1).2
      rw [e, hN] at h3; exact h3
    · rename_i e
      exact h.b z h1 fun h3 => h2 ((hm z).2 ⟨h3, fun e2 => e (by rw [e2])⟩)
theorem CP.all (h : CP M rem0 [] M2) (h0 : ∀ p : Int × α, p ∈ rem0 ↔ okI p.1 ∧ M p.1 = some p.2) : (∀ i, okI i → M2 i = M i) ∧ ∀ i, ¬ okI i → M2 i = none := by
  refine ⟨fun i hi => ?_, fun i hi => ?_⟩
  · cases hM : M i with
    | none =>
      cases hM2 : M2 i with
      | none => rfl
      | some v => have := (h.a i v hM2).2; rw [hM] at this; cases this
    | some v => exact h.b (i, v) ((h0 (i, v)).2 ⟨hi, hM⟩) (by simp)
  · cases hM2 : M2 i with
    | none => rfl
    | some v => exact absurd (h.a i v hM2).1 hi
end
theorem RA_copy {nw nw2 : Int → Option (Ro E5)} {od od2 : Int → Option (Ro (Ro E5))} {bn bn2 : Int → Option Bool} {sc sc2 : Int → Option Int} (h1 : (∀ i, okI i → (roG (nw2 i)).l = (roG (nw i)).l) ∧ ∀ i, ¬ okI i → nw2 i = none) (h2 : (∀ i, okI i → (roG (od2 i)).l = (roG (od i)).l) ∧ ∀ i, ¬ okI i → od2 i = none) (h3 : (∀ i, okI i → bn2 i = bn i) ∧ ∀ i, ¬ okI i → bn2 i = none) (h4 : (∀ i, okI i → sc2 i = sc i) ∧ ∀ i, ¬ okI i → sc2 i = none) : RA nw2 od2 bn2 sc2 = rst (RA nw od bn sc) := by
  refine BS.ext (funext fun y => ?_) (funext fun y => ?_) (funext fun y => ?_) (funext fun y => ?_)
  · show (sc2 y).getD 0 = if okI y then (sc y).getD 0 else 0
    split
    · rename_i h; rw [h4.1 y h]
    · rename_i h; rw [h4.2 y h]; rfl
  · show (bn2 y).getD false = if okI y then (bn y).getD false else false
    split
    · rename_i h; rw [h3.1 y h]
    · rename_i h; rw [h3.2 y h]; rfl
  · show trE (roG (nw2 y)).l = if okI y then trE (roG (nw y)).l else noT
    split
    · rename_i h; rw [h1.1 y h]
    · rename_i h; rw [h1.2 y h]; rfl
  · show (roG (od2 y)).l.map (fun r => trE r.l) = if okI y then (roG (od y)).l.map (fun r => trE r.l) else []
    split
    · rename_i h; rw [h2.1 y h]
    · rename_i h; rw [h2.2 y h]; rfl
theorem RI.copy {nw nw2 : Int → Option (Ro E5)} {od od2 : Int → Option (Ro (Ro E5))} {s t : RSt} (h : RI nw od s) (hle : s.le t) {rem0 : List (Int × Ro E5)} {rem1 : List (Int × Ro (Ro E5))} (h1 : CI nw rem0 [] nw2 t.rs) (h2 : CI od rem1 [] od2 t.ts) : RI nw2 od2 t := by
  refine ⟨fun i r hr => ?_, fun i q hq => ?_⟩
  · obtain ⟨_, r0, a1, a2, a3⟩ := h1.a i r hr
    exact ⟨a3, by rw [a2]; exact (h.nwr i r0 a1).2⟩
  · obtain ⟨_, q0, a1, a2, a3⟩ := h2.a i q hq
    obtain ⟨_, b2, b3⟩ := h.odr i q0 a1
    exact ⟨a3, by rw [a2]; exact b2, fun r hr => by rw [a2] at hr; exact ⟨hle.r _ (b3 r hr).1, (b3 r hr).2⟩⟩
/-! the program's -/
/-- Tries of now that are being copied. -/
structure CN (nw : Int → Option Nat) (ct : Nat → Tr) (rem0 rem : List (Int × Nat)) (nwc : Int → Option Nat) (msc : List Nat) (ctc : Nat → Tr) : Prop where
  a : ∀ i m', nwc i = some m' → okI i ∧ m' ∈ msc ∧ ∃ m, nw i = some m ∧ ctc m' = ct m
  b : ∀ z ∈ rem0, z ∉ rem → ∃ m', nwc z.1 = some m'
  j : ∀ i k m', nwc i = some m' → nwc k = some m' → i = k
  t : ∀ m' ∈ msc, Tok (ctc m')
/-- Old tries that are being copied. -/
structure CO (od : Int → Option (Ro Nat)) (ct : Nat → Tr) (rem0 rem : List (Int × Ro Nat)) (nwc : Int → Option Nat) (odc : Int → Option (Ro Nat)) (rsc : List (Ro Nat)) (msc : List Nat) (ctc : Nat → Tr) : Prop where
  a : ∀ i r', odc i = some r' → okI i ∧ r' ∈ rsc ∧ ∃ r, od i = some r ∧ r'.l.map ctc = r.l.map ct
  b : ∀ z ∈ rem0, z ∉ rem → (roO (odc z.1)).l.map ctc = z.2.l.map ct
  c : ∀ z ∈ rem, odc z.1 = none
  r : ∀ r' ∈ rsc, r'.l.length ≤ 10 ∧ ∀ m ∈ r'.l, m ∈ msc ∧ ∀ i, nwc i ≠ some m
section
variable {nw nwc : Int → Option Nat} {ct ctc : Nat → Tr} {rem0 rem rem2 : List (Int × Nat)} {msc : List Nat} {q : Int × Nat} {g : Nat} {od odc OC : Int → Option (Ro Nat)} {rm0 rm rm2 : List (Int × Ro Nat)} {rsc : List (Ro Nat)} {z : Int × Ro Nat}
theorem CN.start (nw : Int → Option Nat) (ct : Nat → Tr) (rem0 : List (Int × Nat)) : CN nw ct rem0 rem0 (fun _ => none) [] (fun _ => noT) := ⟨fun _ _ h => (by cases h), fun z h1 h2 => absurd h1 h2, fun _ _ _ h => (by cases h), fun _ h => (by cases h)⟩
theorem CN.next (h : CN nw ct rem0 rem nwc msc ctc) (hok : okI q.1) (hN : nw q.1 = some q.2) (hm : ∀ z, z ∈ rem2 ↔ z ∈ rem ∧ z ≠ q) (hg : g ∉ msc) (ht : Tok (ct q.2)) : CN nw ct rem0 rem2 (upM nwc q.1 g) (g :: msc) (upd ctc g (ct q.2)) := by
  have ne : ∀ m' ∈ msc, ¬ m' = g := fun m' h1 e => hg (e ▸ h1)
  refine ⟨fun i m' hi => ?_, fun z h1 h2 => ?_, fun i k m' hi hk => ?_, fun m' hm' => ?_⟩
  · unfold upM at hi
    split at hi
    · rename_i e; cases hi; subst e; exact ⟨hok, List.mem_cons_self .., q.2, hN, by rw [upd_same]⟩
    · obtain ⟨a1, a2, m, a3, a4⟩ := h.a i m' hi
      exact ⟨a1, List.mem_cons_of_mem _ a2, m, a3, by rw [upd_ne (ne _ a2)]; exact a4⟩
  · unfold upM
    split
    · exact ⟨g, rfl⟩
    · rename_i e
      exact h.b z h1 fun h3 => h2 ((hm z).2 ⟨h3, fun e2 => e (by rw [e2])⟩)
  · unfold upM at hi hk
    split at hi <;> split at hk
    · rename_i e1 e2; rw [e1, e2]
    · cases hi; exact absurd (h.a k _ hk).2.1 hg
    · cases hk; exact absurd (h.a i _ hi).2.1 hg
    · exact h.j i k m' hi hk
  · rcases List.mem_cons.1 hm' with rfl | hm'
    · rw [upd_same]; exact ht
    · rw [upd_ne (ne _ hm')]; exact h.t _ hm'
theorem CN.more (h : CN nw ct rem0 rem nwc msc ctc) {t : Tr} (hg : g ∉ msc) (ht : Tok t) : CN nw ct rem0 rem nwc (g :: msc) (upd ctc g t) := by
  have ne : ∀ m' ∈ msc, ¬ m' = g := fun m' h1 e => hg (e ▸ h1)
  refine ⟨fun i m' hi => ?_, h.b, h.j, fun m' hm' => ?_⟩
  · obtain ⟨a1, a2, m, a3, a4⟩ := h.a i m' hi
    exact ⟨a1, List.mem_cons_of_mem _ a2, m, a3, by rw [upd_ne (ne _ a2)]; exact a4⟩
  · rcases List.mem_cons.1 hm' with rfl | hm'
    · rw [upd_same]; exact ht
    · rw [upd_ne (ne _ hm')]; exact h.t _ hm'
theorem CN.all (h : CN nw ct rem0 [] nwc msc ctc) (h0 : ∀ p : Int × Nat, p ∈ rem0 ↔ okI p.1 ∧ nw p.1 = some p.2) : (∀ i, okI i → nwA nwc ctc i = nwA nw ct i) ∧ ∀ i, ¬ okI i → nwc i = none := by
  refine ⟨fun i hi => ?_, fun i hi => ?_⟩
  · cases hM : nw i with
    | none =>
      cases hM2 : nwc i with
      | none => unfold nwA; rw [hM, hM2]; rfl
      | some m' =>
        obtain ⟨_, _, m, a, _⟩ := h.a i m' hM2
        rw [hM] at a; cases a
    | some m =>
      obtain ⟨m', hm'⟩ := h.b (i, m) ((h0 (i, m)).2 ⟨hi, hM⟩) (by simp)
      obtain ⟨_, _, m2, a1, a2⟩ := h.a i m' hm'
      rw [hM] at a1; cases a1
      rw [nwA_some hm', nwA_some hM]; exact a2
  · cases hM2 : nwc i with
    | none => rfl
    | some m' => exact absurd (h.a i m' hM2).1 hi
theorem CO.start (od : Int → Option (Ro Nat)) (ct : Nat → Tr) (rm0 : List (Int × Ro Nat)) (nwc : Int → Option Nat) (msc : List Nat) (ctc : Nat → Tr) : CO od ct rm0 rm0 nwc (fun _ => none) [] msc ctc := ⟨fun _ _ h => (by cases h), fun z h1 h2 => absurd h1 h2, fun _ _ => rfl, fun _ h => (by cases h)⟩
theorem CO.more (h : CO od ct rm0 rm nwc odc rsc msc ctc) {t : Tr} (hg : g ∉ msc) : CO od ct rm0 rm nwc odc rsc (g :: msc) (upd ctc g t) := by
  have ne : ∀ m' ∈ msc, ¬ m' = g := fun m' h1 e => hg (e ▸ h1)
  have key : ∀ r' ∈ rsc, r'.l.map (upd ctc g t) = r'.l.map ctc := fun r' hr' => List.map_congr_left fun m hm => upd_ne (ne m ((h.r r' hr').2 m hm).1)
  refine ⟨fun i r' hi => ?_, fun z h1 h2 => ?_, h.c, fun r' hr' => ⟨(h.r r' hr').1, fun m hm => ⟨List.mem_cons_of_mem _ ((h.r r' hr').2 m hm).1, ((h.r r' hr').2 m hm).2⟩⟩⟩
  · obtain ⟨a1, a2, r, a3, a4⟩ := h.a i r' hi
    exact ⟨a1, a2, r, a3, by rw [key r' a2]; exact a4⟩
  · have h3 := h.b z h1 h2
    cases ho : odc z.1 with
    | none => rw [ho] at h3; exact h3
    | some r' =>
      rw [ho] at h3
      show r'.l.map (upd ctc g t) = _
      rw [key r' (h.a _ _ ho).2.1]; exact h3
/-- One map of rows more. -/
theorem CO.next (h : CO od ct rm0 rm nwc odc rsc msc ctc) (hz : z ∈ rm) (hok : okI z.1) (hN : od z.1 = some z.2) (h0 : ∀ p : Int × Ro Nat, p ∈ rm0 ↔ okI p.1 ∧ od p.1 = some p.2) (hs : ∀ x ∈ rm, x ∈ rm0) (hm : ∀ x, x ∈ rm2 ↔ x ∈ rm ∧ x ≠ z) {p : Option Addr} {c : Nat} {l : List Nat} (hO : ∀ j, ¬ j = z.1 → OC j = odc j) (hOz : roO (OC z.1) = ⟨p, c, l⟩) (hl : l.map ctc = z.2.l.map ct) (hlen : z.2.l.length ≤ 10) (hin : ∀ m ∈ l, m ∈ msc ∧ ∀ i, nwc i ≠ some m) : CO od ct rm0 rm2 nwc OC (rsc ++ [⟨p, c, l⟩]) msc ctc := by
  have one : ∀ x ∈ rm0, x.1 = z.1 → x = z := fun x hx e => by
    have h1 := ((h0 x).1 hx).2
    rw [e, hN] at h1
    exact Prod.ext e (Option.some.inj h1).symm
  refine ⟨fun i r' hi => ?_, fun x h1 h2 => ?_, fun x hx => ?_, fun r' hr' => ?_⟩
  · by_cases e : i = z.1
    · subst e
      rw [hi] at hOz
      have h3 : r' = ⟨p, c, l⟩ := hOz
      subst h3
      exact ⟨hok, List.mem_append_right _ (List.mem_singleton.2 rfl), z.2, hN, hl⟩
    · rw [hO i e] at hi
      obtain ⟨a1, a2, a3⟩ := h.a i r' hi
      exact ⟨a1, List.mem_append_left _ a2, a3⟩
  · by_cases e : x.1 = z.1
    · rw [one x h1 e, hOz]; exact hl
    · rw [hO _ e]
      exact h.b x h1 fun h3 => h2 ((hm x).2 ⟨h3, fun e2 => e (by rw [e2])⟩)
  · obtain ⟨h3, h4⟩ := (hm x).1 hx
    rw [hO _ fun e => h4 (one x (hs x h3) e)]
    exact h.c x h3
  · rcases List.mem_append.1 hr' with h3 | h3
    · exact h.r r' h3
    · rw [List.mem_singleton] at h3; subst h3
      have := congrArg List.length hl
      rw [List.length_map, List.length_map] at this
      exact ⟨by show l.length ≤ 10; omega, hin⟩
theorem CO.all (h : CO od ct rm0 [] nwc odc rsc msc ctc) (h0 : ∀ p : Int × Ro Nat, p ∈ rm0 ↔ okI p.1 ∧ od p.1 = some p.2) : (∀ i, okI i → odA odc ctc i = odA od ct i) ∧ ∀ i, ¬ okI i → odc i = none := by
  have hA : ∀ (o : Int → Option (Ro Nat)) (t : Nat → Tr) i, odA o t i = (roO (o i)).l.map t := fun o t i => by unfold odA; rw [odR_eq]
  refine ⟨fun i hi => ?_, fun i hi => ?_⟩
  · rw [hA, hA]
    cases hM : od i with
    | none =>
      cases hM2 : odc i with
      | none => rfl
      | some r' =>
        obtain ⟨_, _, r, a, _⟩ := h.a i r' hM2
        rw [hM] at a; cases a
    | some r => exact h.b (i, r) ((h0 (i, r)).2 ⟨hi, hM⟩) (by simp)
  · cases hM2 : odc i with
    | none => rfl
    | some r' => exact absurd (h.a i r' hM2).1 hi
theorem copy_BI (h1 : CN nw ct rem0 [] nwc msc ctc) (h2 : CO od ct rm0 [] nwc odc rsc msc ctc) : BI nwc odc rsc msc ctc :=
  ⟨fun i m h => (h1.a i m h).2.1, fun i r h => (h2.a i r h).2.1, fun r hr => (h2.r r hr).1, fun r hr m hm => ((h2.r r hr).2 m hm).1, h1.t, fun i m hi r hr hm => ((h2.r r hr).2 m hm).2 i hi, h1.j⟩
end
end Go.Proofs.Ytlikhpfdncidkaa
