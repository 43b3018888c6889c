import Derived.Test.YtlikhpfdncidkaaBz
import Derived.Test.YtlikhpfdncidkaaGz
set_option linter.unusedSimpArgs false
set_option linter.unusedVariables false
namespace Go.Proofs.Ytlikhpfdncidkaa
open Go.RowKit

/-! ## The reference's tries: lists of blocks -/
structure E5 where
  pr : Int
  pc : Int
  bg : Int
  ln : Int
  dg : ByteArray
def e5L (x : E5) : List Value := [.int .i64 x.pr, .int .i64 x.pc, .int .i64 x.bg, .int .i64 x.ln, .string x.dg]
theorem e5E : Enc 5 e5L := ⟨by decide, fun _ => rfl, fun _ => rfl⟩
abbrev E5.sp (x : E5) : Sp := (x.bg, x.ln)
abbrev E5.sn (x : E5) : Sn := (x.pr, x.dg)
def trE (l : List E5) : Tr := fun s => (l.find? fun x => decide (x.sp = s)).map E5.sn
structure EOk (i : Int) (l : List E5) : Prop where
  pc : ∀ x ∈ l, x.pc = i
  inn : ∀ x ∈ l, (0 ≤ x.bg ∧ x.bg ≤ 1024 ∧ 1 ≤ x.ln ∧ x.ln ≤ 1024) ∧ 1 ≤ x.pr ∧ x.pr ≤ 1000
  one : (l.map E5.bg).Nodup
theorem eok_nil (i : Int) : EOk i [] := ⟨fun _ h => (by cases h), fun _ h => (by cases h), .nil⟩
variable {i : Int} {l g : List E5}
theorem EOk.same (h : EOk i l) {x y : E5} (hx : x ∈ l) (hy : y ∈ l) (e : x.bg = y.bg) : x = y := by
  obtain ⟨a, ha⟩ := List.getElem?_of_mem hx
  obtain ⟨b, hb⟩ := List.getElem?_of_mem hy
  have := nodup_at (f := E5.bg) h.one ha hb e
  subst this
  rw [ha] at hb; exact Option.some.inj hb
theorem trE_iff (h : EOk i l) {s : Sp} {v : Sn} : trE l s = some v ↔ ∃ x ∈ l, x.sp = s ∧ x.sn = v := by
  unfold trE
  constructor
  · intro h1
    obtain ⟨x, hx, rfl⟩ := Option.map_eq_some_iff.1 h1
    exact ⟨x, List.mem_of_find?_eq_some hx, by simpa using List.find?_some hx, rfl⟩
  · rintro ⟨x, hx, rfl, rfl⟩
    cases hf : l.find? fun y => decide (y.sp = x.sp) with
    | none => exact absurd (List.find?_eq_none.1 hf x hx) (by simp)
    | some y =>
      have h1 := List.mem_of_find?_eq_some hf
      have h2 : y.sp = x.sp := by simpa using List.find?_some hf
      rw [h.same h1 hx (congrArg Prod.fst h2)]; rfl
theorem trE_none : (∀ s, trE l s = none) ↔ l = [] := by
  constructor
  · intro h
    cases l with
    | nil => rfl
    | cons x l => have := h x.sp; simp [trE] at this
  · rintro rfl s; rfl
theorem EOk.tok (h : EOk i l) : Tok (trE l) := by
  refine ⟨fun s v hs => ?_, fun s v s' v' h1 h2 e => ?_⟩
  · obtain ⟨x, hx, rfl, rfl⟩ := (trE_iff h).1 hs
    exact h.inn x hx
  · obtain ⟨x, hx, rfl, rfl⟩ := (trE_iff h).1 h1
    obtain ⟨y, hy, rfl, rfl⟩ := (trE_iff h).1 h2
    rw [h.same hx hy e]
theorem EOk.snoc (h : EOk i l) {x : E5} (hp : x.pc = i) (hi : (0 ≤ x.bg ∧ x.bg ≤ 1024 ∧ 1 ≤ x.ln ∧ x.ln ≤ 1024) ∧ 1 ≤ x.pr ∧ x.pr ≤ 1000) (hn : ∀ y ∈ l, ¬ y.bg = x.bg) : EOk i (l ++ [x]) := by
  refine ⟨forall_snoc h.pc hp, forall_snoc h.inn hi, ?_⟩
  rw [List.map_append, List.nodup_append]
  refine ⟨h.one, by simp, fun a ha b hb => ?_⟩
  obtain ⟨y, hy, rfl⟩ := List.mem_map.1 ha
  rw [List.map_singleton, List.mem_singleton] at hb
  rw [hb]; exact hn y hy
theorem trE_snoc {x : E5} (hn : ∀ y ∈ l, ¬ y.bg = x.bg) : trE (l ++ [x]) = upM (trE l) x.sp x.sn := by
  funext s
  unfold trE upM
  rw [List.find?_append]
  by_cases e : s = x.sp
  · subst e
    rw [if_pos rfl]
    have : l.find? (fun y => decide (y.sp = x.sp)) = none := List.find?_eq_none.2 fun y hy => by
      simp only [decide_eq_true_eq]
      exact fun e => hn y hy (congrArg Prod.fst e)
    rw [this]; simp
  · rw [if_neg e]
    have : [x].find? (fun y => decide (y.sp = s)) = none := List.find?_eq_none.2 fun y hy => by
      rw [List.mem_singleton] at hy; subst hy
      simp only [decide_eq_true_eq]
      exact fun h => e h.symm
    rw [this, Option.or_none]
def cutE (l : List E5) (k : Nat) : List E5 := l.take k ++ l.drop (k + 1)
theorem cutE_mem (h : EOk i l) {k : Nat} {x : E5} (hk : l[k]? = some x) {y : E5} : y ∈ cutE l k ↔ y ∈ l ∧ ¬ y.bg = x.bg := by
  unfold cutE
  rw [List.mem_append]
  have hlt := (List.getElem?_eq_some_iff.1 hk).1
  constructor
  · intro h1
    have hj : ∃ j, l[j]? = some y ∧ ¬ j = k := by
      rcases h1 with h1 | h1
      · obtain ⟨j, hj⟩ := List.getElem?_of_mem h1
        rw [List.getElem?_take] at hj
        split at hj
        · exact ⟨j, hj, by omega⟩
        · cases hj
      · obtain ⟨j, hj⟩ := List.getElem?_of_mem h1
        rw [List.getElem?_drop] at hj
        exact ⟨_, hj, by omega⟩
    obtain ⟨j, hj, hne⟩ := hj
    exact ⟨List.mem_of_getElem? hj, fun e => hne (nodup_at (f := E5.bg) h.one hj hk e)⟩
  · rintro ⟨hy, hne⟩
    obtain ⟨j, hj⟩ := List.getElem?_of_mem hy
    have : ¬ j = k := fun e => by subst e; rw [hk] at hj; cases hj; exact hne rfl
    by_cases hjk : j < k
    · exact .inl (List.mem_of_getElem? (i := j) (by rw [List.getElem?_take, if_pos hjk]; exact hj))
    · exact .inr (List.mem_of_getElem? (i := j - (k + 1)) (by rw [List.getElem?_drop, show k + 1 + (j - (k + 1)) = j by omega]; exact hj))
theorem cutE_sub (l : List E5) (k : Nat) : (cutE l k).Sublist l := by
  unfold cutE
  conv => rhs; rw [← List.take_append_drop k l]
  exact List.Sublist.append (.refl _) (by rw [← List.drop_drop]; exact List.drop_sublist _ _)
theorem EOk.cut (h : EOk i l) (k : Nat) : EOk i (cutE l k) :=
  ⟨fun x hx => h.pc x ((cutE_sub l k).subset hx), fun x hx => h.inn x ((cutE_sub l k).subset hx), h.one.sublist ((cutE_sub l k).map _)⟩
theorem trE_cut (h : EOk i l) {k : Nat} {x : E5} (hk : l[k]? = some x) : trE (cutE l k) = delM (trE l) x.sp := by
  funext s
  have key : ∀ v, trE (cutE l k) s = some v ↔ delM (trE l) x.sp s = some v := fun v => by
    rw [trE_iff (h.cut k)]
    unfold delM
    constructor
    · rintro ⟨y, hy, rfl, rfl⟩
      obtain ⟨h1, h2⟩ := (cutE_mem h hk).1 hy
      rw [if_neg fun e => h2 (congrArg Prod.fst e)]
      exact (trE_iff h).2 ⟨y, h1, rfl, rfl⟩
    · intro h1
      split at h1
      · cases h1
      · rename_i e
        obtain ⟨y, hy, rfl, rfl⟩ := (trE_iff h).1 h1
        exact ⟨y, (cutE_mem h hk).2 ⟨hy, fun e2 => e (by rw [h.same hy (List.mem_of_getElem? hk) e2])⟩, rfl, rfl⟩
  cases h1 : trE (cutE l k) s with
  | some v => exact ((key v).1 h1).symm
  | none =>
    cases h2 : delM (trE l) x.sp s with
    | none => rfl
    | some v => rw [(key v).2 h2] at h1; cases h1
theorem whoE (h : EOk i l) : whoL (trE l) = ascI (l.map E5.pr) := whoL_eq ⟨ascI_lt _, fun x => by
  rw [ascI_mem, List.mem_map]
  constructor
  · rintro ⟨y, hy, rfl⟩
    exact ⟨y.sp, y.dg, okP_of (h.inn y hy).1, (trE_iff h).2 ⟨y, hy, rfl, rfl⟩⟩
  · rintro ⟨s, d, _, hs⟩
    obtain ⟨y, hy, _, e⟩ := (trE_iff h).1 hs
    exact ⟨y, hy, congrArg Prod.fst e⟩⟩
theorem EOk.len (h : EOk i l) : l.length ≤ 1025 := by
  have h2 := len_sub h.one (m := (List.range 1025).map Int.ofNat) fun x hx => by
    obtain ⟨y, hy, rfl⟩ := List.mem_map.1 hx
    have := (h.inn y hy).1
    exact nats_mem ⟨this.1, by omega⟩
  simpa using h2
theorem differE {j : Int} (hg : EOk j g) (h : EOk j l) {p : Int} : differ (trE g) (trE l) p ↔ ∃ x ∈ l, ∃ y ∈ g, x.pr = p ∧ (x.pc = y.pc ∧ x.bg = y.bg ∧ x.ln = y.ln) ∧ ¬ x.dg = y.dg := by
  constructor
  · rintro ⟨s, d, y, d', _, h1, h2, h3⟩
    obtain ⟨x, hx, rfl, e⟩ := (trE_iff h).1 h1
    obtain ⟨z, hz, e2, e3⟩ := (trE_iff hg).1 h2
    have q1 := congrArg Prod.fst e; have q2 := congrArg Prod.snd e; have q3 := congrArg Prod.fst e2; have q4 := congrArg Prod.snd e2; have q5 := congrArg Prod.snd e3
    simp only [] at q1 q2 q3 q4 q5
    exact ⟨x, hx, z, hz, q1, ⟨by rw [h.pc x hx, hg.pc z hz], q3.symm, q4.symm⟩, fun e => h3 (by rw [← q5, ← q2, e])⟩
  · rintro ⟨x, hx, y, hy, rfl, ⟨_, e1, e2⟩, h3⟩
    exact ⟨x.sp, x.dg, y.pr, y.dg, okP_of (h.inn x hx).1, (trE_iff h).2 ⟨x, hx, rfl, rfl⟩, (trE_iff hg).2 ⟨y, hy, by show (y.bg, y.ln) = (x.bg, x.ln); rw [e1, e2], rfl⟩, fun e => h3 e.symm⟩
theorem begE (h : EOk i l) {b : Int} : (∃ s v, trE l s = some v ∧ s.1 = b) ↔ ∃ x ∈ l, x.bg = b := by
  constructor
  · rintro ⟨s, v, h1, rfl⟩
    obtain ⟨x, hx, rfl, _⟩ := (trE_iff h).1 h1
    exact ⟨x, hx, rfl⟩
  · rintro ⟨x, hx, rfl⟩
    exact ⟨_, _, (trE_iff h).2 ⟨x, hx, rfl, rfl⟩, rfl⟩
/-! the reference's memory: rows are made once and stay -/
def roG {α : Type} (x : Option (Ro α)) : Ro α := x.getD ⟨none, 0, []⟩
theorem look_G {α : Type} (x : Option (Ro α)) : (x.map roV).getD (.slice none 0 0) = .slice (roG x).p (roG x).l.length (roG x).c := by cases x <;> rfl
structure RSt where
  rs : List (Ro E5)
  ts : List (Ro (Ro E5))
structure RSt.le (s t : RSt) : Prop where
  r : ∀ x ∈ s.rs, x ∈ t.rs
  t : ∀ x ∈ s.ts, x ∈ t.ts
theorem RSt.le.refl (s : RSt) : s.le s := ⟨fun _ h => h, fun _ h => h⟩
theorem RSt.le.trans {s t u : RSt} (h : s.le t) (k : t.le u) : s.le u := ⟨fun x hx => k.r x (h.r x hx), fun x hx => k.t x (h.t x hx)⟩
structure RM where
  b : Nat
  m1 : Nat
  m2 : Nat
  m3 : Nat
  m4 : Nat
  nw : Int → Option (Ro E5)
  od : Int → Option (Ro (Ro E5))
  bn : Int → Option Bool
  sc : Int → Option Int
structure RI (nw : Int → Option (Ro E5)) (od : Int → Option (Ro (Ro E5))) (s : RSt) : Prop where
  nwr : ∀ i r, nw i = some r → r ∈ s.rs ∧ EOk i r.l
  odr : ∀ i q, od i = some q → q ∈ s.ts ∧ q.l.length ≤ 10 ∧ ∀ r ∈ q.l, r ∈ s.rs ∧ EOk i r.l
theorem RI.le {nw : Int → Option (Ro E5)} {od : Int → Option (Ro (Ro E5))} {s t : RSt} (h : RI nw od s) (k : s.le t) : RI nw od t :=
  ⟨fun i r hr => ⟨k.r _ (h.nwr i r hr).1, (h.nwr i r hr).2⟩, fun i q hq => ⟨k.t _ (h.odr i q hq).1, (h.odr i q hq).2.1, fun r hr => ⟨k.r _ ((h.odr i q hq).2.2 r hr).1, ((h.odr i q hq).2.2 r hr).2⟩⟩⟩
theorem RI.nil : RI (fun _ => none) (fun _ => none) ⟨[], []⟩ := ⟨fun _ _ h => (by cases h), fun _ _ h => (by cases h)⟩
def RM.A (X : RM) : BS := ⟨fun x => (X.sc x).getD 0, fun x => (X.bn x).getD false, fun i => trE (roG (X.nw i)).l, fun i => (roG (X.od i)).l.map fun r => trE r.l⟩
section
variable {nw : Int → Option (Ro E5)} {od : Int → Option (Ro (Ro E5))} {s : RSt}
theorem RI.nwOk (h : RI nw od s) (i : Int) : EOk i (roG (nw i)).l := by
  cases hn : nw i with
  | none => exact eok_nil i
  | some r => exact (h.nwr i r hn).2
theorem RI.nwIn (h : RI nw od s) (i : Int) : roG (nw i) ∈ s.rs ∨ roG (nw i) = ⟨none, 0, []⟩ := by
  cases hn : nw i with
  | none => exact .inr rfl
  | some r => exact .inl (h.nwr i r hn).1
theorem RI.odIn (h : RI nw od s) (i : Int) : roG (od i) ∈ s.ts ∨ roG (od i) = ⟨none, 0, []⟩ := by
  cases hn : od i with
  | none => exact .inr rfl
  | some r => exact .inl (h.odr i r hn).1
theorem RI.odLen (h : RI nw od s) (i : Int) : (roG (od i)).l.length ≤ 10 := by
  cases hn : od i with
  | none => exact Nat.zero_le _
  | some r => exact (h.odr i r hn).2.1
theorem RI.odOk (h : RI nw od s) (i : Int) : ∀ r ∈ (roG (od i)).l, r ∈ s.rs ∧ EOk i r.l := by
  cases hn : od i with
  | none => intro r hr; cases hr
  | some r => exact (h.odr i r hn).2.2
theorem RI.setNw (h : RI nw od s) {i : Int} {r : Ro E5} {t : RSt} (k : s.le t) (hr : r ∈ t.rs) (hok : EOk i r.l) : RI (upM nw i r) od t :=
  ⟨fun j q hq => by
    unfold upM at hq
    split at hq
    · rename_i e; cases hq; subst e; exact ⟨hr, hok⟩
    · exact (h.le k).nwr j q hq, (h.le k).odr⟩
theorem RI.delNw (h : RI nw od s) (i : Int) : RI (delM nw i) od s :=
  ⟨fun j q hq => by
    unfold delM at hq
    split at hq
    · cases hq
    · exact h.nwr j q hq, h.odr⟩
theorem RI.delOd (h : RI nw od s) (i : Int) : RI nw (delM od i) s :=
  ⟨h.nwr, fun j q hq => by
    unfold delM at hq
    split at hq
    · cases hq
    · exact h.odr j q hq⟩
theorem RI.setOd (h : RI nw od s) {i : Int} {q : Ro (Ro E5)} {t : RSt} (k : s.le t) (hq : q ∈ t.ts) (hl : q.l.length ≤ 10) (hok : ∀ r ∈ q.l, r ∈ t.rs ∧ EOk i r.l) : RI nw (upM od i q) t :=
  ⟨(h.le k).nwr, fun j q' hq' => by
    unfold upM at hq'
    split at hq'
    · rename_i e; cases hq'; subst e; exact ⟨hq, hl, hok⟩
    · exact (h.le k).odr j q' hq'⟩
end
end Go.Proofs.Ytlikhpfdncidkaa
