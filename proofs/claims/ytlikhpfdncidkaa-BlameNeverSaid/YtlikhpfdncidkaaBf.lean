import Derived.Test.YtlikhpfdncidkaaBd
set_option linter.unusedSimpArgs false
set_option linter.unusedVariables false
namespace Go.Proofs.Ytlikhpfdncidkaa
open Go.RowKit

/-! ## BlameNever in plain words -/
def baR : ByteArray := ⟨#[114, 105, 103, 104, 116]⟩
def baW : ByteArray := ⟨#[119, 114, 111, 110, 103]⟩
set_option maxRecDepth 100000 in
theorem sum_rw : ¬ sumS baR = sumS baW := by decide +kernel
/-- A try of n blocks of 5 bytes, each right or wrong. -/
structure Rnd (t : Tr) (n : Nat) : Prop where
  dom : ∀ s v, t s = some v → ∃ i : Nat, i < n ∧ s = (5 * (i : Int), 5) ∧ (v.2 = sumS baW ∨ v.2 = sumS baR)
  has : ∀ i : Nat, i < n → ∃ v, t (5 * (i : Int), 5) = some v
  tok : Tok t
/-- Who spoilt a block of a try. -/
def spoils (t : Tr) (p : Int) : Prop := ∃ s, t s = some (p, sumS baW)
theorem Rnd.spoilt_in {t : Tr} {n : Nat} (h : Rnd t n) {p : Int} (hp : spoils t p) : p ∈ whoL t ∧ okI p := by
  obtain ⟨s, hs⟩ := hp
  exact ⟨(h.tok.who.2 p).2 ⟨s, _, h.tok.okp hs, hs⟩, okI_in (h.tok.inn s _ hs).2⟩
structure PI (A0 A : BS) (i : Nat) (bd : Int → Option Bool) : Prop where
  od : A.od = A0.od
  bn : A.bn = A0.bn
  nwn : ∀ j, ¬ j = 3 → A.nw j = noT
  rnd : Rnd (A.nw 3) i
  bad : ∀ p, (bd p).getD false = true ↔ spoils (A.nw 3) p
  tru : ∀ p b, bd p = some b → b = true
structure PL (A : BS) (n : Nat) (T : List Tr) (sp : Int → Option Bool) : Prop where
  nw : ∀ j, A.nw j = noT
  od3 : A.od 3 = T
  odn : ∀ j, ¬ j = 3 → A.od j = []
  rnd : ∀ t ∈ T, Rnd t n
  bad : ∀ t ∈ T, ∃ p, spoils t p
  spo : ∀ p, (sp p).getD false = true ↔ ∃ t ∈ T, spoils t p
  ban : ∀ p, A.bn p = true → (sp p).getD false = true
theorem pl_none (n : Nat) : PL BS.none n [] (fun _ => none) := ⟨fun _ => rfl, rfl, fun _ _ => rfl, fun _ h => (by cases h), fun _ h => (by cases h), fun p => ⟨fun h => (by cases h), fun ⟨t, h, _⟩ => (by cases h)⟩, fun _ h => (by cases h)⟩
theorem pi_start {A : BS} {n : Nat} {T : List Tr} {sp : Int → Option Bool} (h : PL A n T sp) : PI A A 0 (fun _ => none) := by
  refine ⟨rfl, rfl, fun j _ => h.nw j, ?_, fun p => ⟨fun q => (by cases q), fun ⟨s, q⟩ => ?_⟩, fun _ _ q => (by cases q)⟩
  · rw [h.nw]; exact ⟨fun _ _ q => (by cases q), fun i hi => absurd hi (Nat.not_lt_zero _), tok_none⟩
  · rw [h.nw] at q; cases q
theorem pi_nw {A0 A : BS} {i : Nat} {bd : Int → Option Bool} {p : Int} {data : ByteArray} (h : PI A0 A i bd) (hs : sentE A p 3 (5 * (i : Int)) 5 data = 0) (hd : sumS data = sumS baW ∨ sumS data = sumS baR) {bd' : Int → Option Bool} (hb : ∀ q, (bd' q).getD false = true ↔ (bd q).getD false = true ∨ (q = p ∧ sumS data = sumS baW)) (ht : ∀ p b, bd' p = some b → b = true) : PI A0 (sentA A p 3 (5 * (i : Int)) 5 data) (i + 1) bd' := by
  obtain ⟨h1, h2, h3, h4⟩ := sentE_inv hs
  refine ⟨sentA_sc.2.2.trans h.od, sentA_sc.2.1.trans h.bn, fun j hj => ?_, ⟨?_, ?_, sent_tok hs h.rnd.tok⟩, fun q => ?_, ht⟩
  · rw [sentA_ok hs]
    show (if j = 3 then _ else A.nw j) = _
    rw [if_neg hj]; exact h.nwn j hj
  · intro s v hv
    rw [sentA_nw hs] at hv
    rcases upM_some hv with ⟨rfl, rfl⟩ | ⟨_, hv⟩
    · exact ⟨i, Nat.lt_succ_self i, rfl, hd⟩
    · obtain ⟨k, k1, k2⟩ := h.rnd.dom s v hv
      exact ⟨k, Nat.lt_succ_of_lt k1, k2⟩
  · intro k hk
    rw [sentA_nw hs]
    by_cases e : k = i
    · subst e; exact ⟨_, upM_at⟩
    · obtain ⟨v, hv⟩ := h.rnd.has k (by omega)
      exact ⟨v, by rw [upM_other (fun q => e (by have := congrArg Prod.fst q; simp only at this; omega))]; exact hv⟩
  · rw [hb, h.bad]
    unfold spoils
    rw [sentA_nw hs]
    constructor
    · rintro (⟨s, hq⟩ | ⟨rfl, hq⟩)
      · refine ⟨s, ?_⟩
        rw [upM_other (fun e => ?_)]
        · exact hq
        · subst e; exact h4 _ _ hq rfl
      · exact ⟨_, by rw [upM_at, hq]⟩
    · rintro ⟨s, hq⟩
      rcases upM_some hq with ⟨_, e⟩ | ⟨_, hq⟩
      · simp only [Prod.mk.injEq] at e
        exact .inr ⟨e.1, e.2.symm⟩
      · exact .inl ⟨s, hq⟩
theorem pi_right {A0 A : BS} {i : Nat} {bd : Int → Option Bool} {p : Int} (h : PI A0 A i bd) (hs : sentE A p 3 (5 * (i : Int)) 5 baR = 0) : PI A0 (sentA A p 3 (5 * (i : Int)) 5 baR) (i + 1) bd :=
  pi_nw h hs (.inr rfl) (fun q => ⟨.inl, fun a => a.elim id fun b => absurd b.2 sum_rw⟩) h.tru
theorem pi_wrong {A0 A : BS} {i : Nat} {bd : Int → Option Bool} {p : Int} (h : PI A0 A i bd) (hs : sentE A p 3 (5 * (i : Int)) 5 baW = 0) : PI A0 (sentA A p 3 (5 * (i : Int)) 5 baW) (i + 1) (upM bd p true) :=
  pi_nw h hs (.inl rfl) (fun q => by
    unfold upM
    by_cases e : q = p
    · rw [if_pos e]; exact ⟨fun _ => .inr ⟨e, rfl⟩, fun _ => rfl⟩
    · rw [if_neg e]; exact ⟨.inl, fun a => a.elim id fun b => absurd b.1 e⟩) fun q b hq => by
    rcases upM_some hq with ⟨_, e⟩ | ⟨_, e⟩
    · exact e
    · exact h.tru _ _ e
theorem pi_none {A0 A : BS} {i : Nat} {bd : Int → Option Bool} (h : PI A0 A i bd) {n : Nat} (hk : KN okI bd n) : (n = 0 ↔ ∀ p, ¬ spoils (A.nw 3) p) := by
  obtain ⟨kv, h1, h2, rfl⟩ := hk
  constructor
  · intro h0 p hp
    have hkv : kv = [] := List.eq_nil_of_length_eq_zero h0
    subst hkv
    have hb := (h.bad p).2 hp
    cases hq : bd p with
    | none => rw [hq] at hb; cases hb
    | some b => exact absurd ((h2 (p, b)).2 ⟨(h.rnd.spoilt_in hp).2, hq⟩) (by simp)
  · intro hno
    cases kv with
    | nil => rfl
    | cons q kv =>
      have h3 := ((h2 q).1 (List.mem_cons_self ..)).2
      exact absurd ((h.bad q.1).1 (by rw [h3, h.tru _ _ h3]; rfl)) (hno _)
theorem pi_endE {A0 A : BS} {n : Nat} {bd : Int → Option Bool} (h : PI A0 A n bd) (hn : 0 < n) : endE A 3 = 0 := by
  obtain ⟨v, hv⟩ := h.rnd.has 0 hn
  exact endE_ok (by decide) hv
theorem pl_failB {A0 A : BS} {n : Nat} {T : List Tr} {sp bd sp' : Int → Option Bool} (hl : PL A0 n T sp) (h : PI A0 A n bd) (hn : 0 < n) (hb : ∃ p, spoils (A.nw 3) p) (hsp : ∀ p, (sp' p).getD false = true ↔ (sp p).getD false = true ∨ spoils (A.nw 3) p) : ∀ p, (failA A 3).bn p = true → (sp' p).getD false = true := fun p hp => by
  have hE := pi_endE h hn
  rw [failA_bn hE] at hp
  unfold banM at hp
  rw [hsp]
  rcases Bool.or_eq_true .. ▸ hp with h1 | h1
  · rw [h.bn] at h1; exact .inl (hl.ban p h1)
  · right
    have h2 := of_decide_eq_true h1
    unfold failL at h2
    split at h2
    · rename_i h3
      obtain ⟨q, hq⟩ := hb
      have h4 := (h.rnd.spoilt_in hq).1
      have : p = q := by
        cases hw : whoL (A.nw 3) with
        | nil => rw [hw] at h2; cases h2
        | cons a r =>
          rw [hw] at h2 h3 h4
          have hr : r = [] := List.eq_nil_of_length_eq_zero (by rw [List.length_cons] at h3; omega)
          subst hr
          rw [List.mem_singleton] at h2 h4
          rw [h2, h4]
      rw [this]; exact hq
    · cases h2
theorem pl_fail {A0 A : BS} {n : Nat} {T : List Tr} {sp bd sp' : Int → Option Bool} (hl : PL A0 n T sp) (h : PI A0 A n bd) (hn : 0 < n) (hb : ∃ p, spoils (A.nw 3) p) (hT : T.length < 10) (hsp : ∀ p, (sp' p).getD false = true ↔ (sp p).getD false = true ∨ spoils (A.nw 3) p) : PL (failA A 3) n (T ++ [A.nw 3]) sp' := by
  have hE := pi_endE h hn
  refine ⟨fun j => ?_, ?_, fun j hj => ?_, fun t ht => ?_, fun t ht => ?_, fun p => ?_, fun p hp => ?_⟩
  · rw [failA_nw hE]
    split
    · rfl
    · rename_i hj; exact h.nwn j hj
  · rw [failA_od hE, if_pos rfl, h.od, hl.od3]
    unfold lastTen
    rw [show (T ++ [A.nw 3]).length - 10 = 0 from by rw [List.length_append, List.length_singleton]; omega]; rfl
  · rw [failA_od hE, if_neg hj, h.od]; exact hl.odn j hj
  · rcases List.mem_append.1 ht with h1 | h1
    · exact hl.rnd t h1
    · rw [List.mem_singleton] at h1; subst h1; exact h.rnd
  · rcases List.mem_append.1 ht with h1 | h1
    · exact hl.bad t h1
    · rw [List.mem_singleton] at h1; subst h1; exact hb
  · rw [hsp, hl.spo]
    constructor
    · rintro (⟨t, h1, h2⟩ | h2)
      · exact ⟨t, List.mem_append_left _ h1, h2⟩
      · exact ⟨_, List.mem_append_right _ (List.mem_singleton.2 rfl), h2⟩
    · rintro ⟨t, h1, h2⟩
      rcases List.mem_append.1 h1 with h3 | h3
      · exact .inl ⟨t, h3, h2⟩
      · rw [List.mem_singleton] at h3; subst h3; exact .inr h2
  · exact pl_failB hl h hn hb hsp p hp
theorem sends_of {t : Tr} {n : Nat} (h : Rnd t n) {p : Int} (hp : p ∈ whoL t) : ∃ s d, t s = some (p, d) := by
  obtain ⟨s, d, _, hs⟩ := (h.tok.who.2 p).1 hp
  exact ⟨s, d, hs⟩
theorem gB_iff {R t : Tr} {n : Nat} (hR : Rnd R n) (hno : ∀ p, ¬ spoils R p) (ht : Rnd t n) (hb : ∃ p, spoils t p) {p : Int} (hp : p ∈ whoL t) : gB R t p = true ↔ spoils t p := by
  have hRd : ∀ s v, R s = some v → v.2 = sumS baR := fun s v hs => by
    obtain ⟨i, _, _, h1 | h1⟩ := hR.dom s v hs
    · exact absurd ⟨s, by rw [hs, ← h1]⟩ (hno v.1)
    · exact h1
  have hd : differ R t p ↔ spoils t p := by
    constructor
    · rintro ⟨s, d, y, d2, _, h1, h2, h3⟩
      have h4 := hRd s _ h2
      obtain ⟨i, _, _, h5 | h5⟩ := ht.dom s _ h1
      · exact ⟨s, by rw [h1]; simp only at h5; rw [h5]⟩
      · exact absurd (h4.trans h5.symm) h3
    · rintro ⟨s, hs⟩
      obtain ⟨i, hi, rfl, _⟩ := ht.dom s _ hs
      obtain ⟨v, hv⟩ := hR.has i hi
      exact ⟨_, _, v.1, v.2, ht.tok.okp hs, hs, hv, fun e => sum_rw ((hRd _ _ hv).symm.trans e)⟩
  constructor
  · intro hg
    by_cases h1 : differ R t p
    · exact hd.1 h1
    · by_cases h2 : (whoL t).length = 1
      · obtain ⟨q, hq⟩ := hb
        have h4 := (ht.spoilt_in hq).1
        have : p = q := by
          cases hw : whoL t with
          | nil => rw [hw] at h4; cases h4
          | cons a r =>
            rw [hw] at hp h2 h4
            have hr : r = [] := List.eq_nil_of_length_eq_zero (by rw [List.length_cons] at h2; omega)
            subst hr
            rw [List.mem_singleton] at hp h4
            rw [hp, h4]
        rw [this]; exact hq
      · rw [gB_no h1 h2] at hg; cases hg
  · intro hs; exact gB_yes (hd.2 hs)
theorem pl_good {A0 A : BS} {n : Nat} {T : List Tr} {sp bd : Int → Option Bool} (hl : PL A0 n T sp) (h : PI A0 A n bd) (hn : 0 < n) (hno : ∀ p, ¬ spoils (A.nw 3) p) : (∀ p, (goodA A 3).bn p = (sp p).getD false) ∧ ∀ p, (goodA A 3).par p = false := by
  have hE := pi_endE h hn
  refine ⟨fun p => ?_, fun p => par_no fun i t ht => ?_⟩
  · rw [goodA_bn hE]
    unfold banM
    have hout : p ∈ outL (A.nw 3) (A.od 3) ↔ (sp p).getD false = true := by
      rw [hl.spo, h.od, hl.od3]
      unfold outL
      rw [List.mem_flatMap]
      constructor
      · rintro ⟨t, h1, h2⟩
        obtain ⟨h3, h4⟩ := List.mem_filter.1 h2
        exact ⟨t, h1, (gB_iff h.rnd hno (hl.rnd t h1) (hl.bad t h1) h3).1 h4⟩
      · rintro ⟨t, h1, h2⟩
        have h3 := ((hl.rnd t h1).spoilt_in h2).1
        exact ⟨t, h1, List.mem_filter.2 ⟨h3, (gB_iff h.rnd hno (hl.rnd t h1) (hl.bad t h1) h3).2 h2⟩⟩
    cases hq : (sp p).getD false with
    | true => rw [decide_eq_true (hout.2 hq), Bool.or_true]
    | false =>
      have h1 : A.bn p = false := by
        rw [h.bn]
        cases h2 : A0.bn p with
        | false => rfl
        | true => rw [hl.ban p h2] at hq; cases hq
      rw [h1, decide_eq_false (fun h2 => by rw [hout.1 h2] at hq; cases hq)]; rfl
  · rw [goodA_od hE] at ht
    split at ht
    · cases ht
    · rename_i hi; rw [h.od, hl.odn i hi] at ht; cases ht
theorem pl_ban {A0 A : BS} {i : Nat} {n : Nat} {T : List Tr} {sp bd : Int → Option Bool} (hl : PL A0 n T sp) (h : PI A0 A i bd) : ∀ p, A.bn p = true → (sp p).getD false = true := fun p hp => hl.ban p (by rw [← h.bn]; exact hp)
theorem spread_next {M sp : Int → Option Bool} {rem0 rem rem2 : List (Int × Bool)} {q : Int × Bool} (hq : q ∈ rem0) (hm : ∀ z, z ∈ rem2 ↔ z ∈ rem ∧ z ≠ q) (h : ∀ p, (M p).getD false = true ↔ (sp p).getD false = true ∨ ∃ z ∈ rem0, z ∉ rem ∧ z.1 = p) : ∀ p, (upM M q.1 true p).getD false = true ↔ (sp p).getD false = true ∨ ∃ z ∈ rem0, z ∉ rem2 ∧ z.1 = p := fun p => by
  unfold upM
  by_cases e : p = q.1
  · rw [if_pos e]
    exact ⟨fun _ => .inr ⟨q, hq, fun h2 => ((hm q).1 h2).2 rfl, e.symm⟩, fun _ => rfl⟩
  · rw [if_neg e, h]
    constructor
    · rintro (h1 | ⟨z, h1, h2, h3⟩)
      · exact .inl h1
      · exact .inr ⟨z, h1, fun h5 => h2 ((hm z).1 h5).1, h3⟩
    · rintro (h1 | ⟨z, h1, h2, h3⟩)
      · exact .inl h1
      · exact .inr ⟨z, h1, fun h5 => h2 ((hm z).2 ⟨h5, fun e2 => e (by rw [← h3, e2])⟩), h3⟩
theorem spread_all {A0 A : BS} {n : Nat} {M sp bd : Int → Option Bool} {rem0 : List (Int × Bool)} (h : PI A0 A n bd) (hr : ∀ p, p ∈ rem0 ↔ okI p.1 ∧ bd p.1 = some p.2) (hM : ∀ p, (M p).getD false = true ↔ (sp p).getD false = true ∨ ∃ z ∈ rem0, z ∉ ([] : List (Int × Bool)) ∧ z.1 = p) : ∀ p, (M p).getD false = true ↔ (sp p).getD false = true ∨ spoils (A.nw 3) p := fun p => by
  rw [hM]
  constructor
  · rintro (h1 | ⟨z, h1, _, h3⟩)
    · exact .inl h1
    · right
      obtain ⟨_, h4⟩ := (hr z).1 h1
      rw [← h3]
      exact (h.bad z.1).1 (by rw [h4, h.tru _ _ h4]; rfl)
  · rintro (h1 | h1)
    · exact .inl h1
    · right
      have h2 := (h.bad p).2 h1
      cases hq : bd p with
      | none => rw [hq] at h2; cases h2
      | some b => exact ⟨(p, b), (hr (p, b)).2 ⟨(h.rnd.spoilt_in h1).2, hq⟩, by simp, rfl⟩
end Go.Proofs.Ytlikhpfdncidkaa
