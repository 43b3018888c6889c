import Derived.Test.YthfglkkjkpdkpaaDoorFe
set_option linter.unusedSimpArgs false
set_option linter.unusedVariables false
namespace Go.Proofs.YthfglkkjkpdkpaaDoor
open Go.RowKit
open Go.Maps (Keyed)
open Go.ChangeMaps (setBlock)

/-! ## A range over a map -/
section
variable {κ α : Type} {ek : κ → Value} {va : α → Value} {ok : κ → Prop} {M : κ → Option α} {es : Array MapEntry} {c : Nat} {kv : List (κ × α)}
/-- What is left. -/
def zipOf (es : Array MapEntry) (kv : List (κ × α)) (seen : Array Nat) : List (MapEntry × (κ × α)) := (es.toList.zip kv).filter (fun z => !seen.contains z.1.born)
def remOf (es : Array MapEntry) (kv : List (κ × α)) (seen : Array Nat) : List (κ × α) := (zipOf es kv seen).map Prod.snd
theorem KV.zip_at (h : KV ek va ok M es c kv) {z : MapEntry × (κ × α)} (hz : z ∈ es.toList.zip kv) : ∃ j : Nat, es.toList[j]? = some z.1 ∧ kv[j]? = some z.2 ∧ z.1.key = ek z.2.1 ∧ z.1.val = va z.2.2 := by
  obtain ⟨j, hj⟩ := List.getElem?_of_mem hz
  rw [List.getElem?_zip_eq_some] at hj
  obtain ⟨p, hp, h1, h2⟩ := h.at hj.1
  rw [hj.2] at hp
  cases hp
  exact ⟨j, hj.1, hj.2, h1, h2⟩
theorem KV.fst_zip (h : KV ek va ok M es c kv) : (es.toList.zip kv).map Prod.fst = es.toList := List.map_fst_zip (by have := h.len; simp; omega)
theorem KV.left (h : KV ek va ok M es c kv) (seen : Array Nat) : (leftOf es seen).toList = (zipOf es kv seen).map Prod.fst := by
  unfold leftOf zipOf
  rw [Array.toList_filter]
  conv => lhs; rw [← h.fst_zip]
  rw [List.filter_map]; rfl
theorem nodup_at {β : Type} {l : List β} {γ : Type} {f : β → γ} (hn : (l.map f).Nodup) {i j : Nat} {x y : β} (hi : l[i]? = some x) (hj : l[j]? = some y) (h : f x = f y) : i = j := by
  obtain ⟨hi1, hi2⟩ := List.getElem?_eq_some_iff.1 hi
  obtain ⟨hj1, hj2⟩ := List.getElem?_eq_some_iff.1 hj
  have hw := List.pairwise_iff_getElem.1 hn
  rcases Nat.lt_trichotomy i j with hl | hl | hl
  · exact absurd (show (l.map f)[i]'(by simpa using hi1) = (l.map f)[j]'(by simpa using hj1) from by simp [hi2, hj2, h]) (hw i j (by simpa using hi1) (by simpa using hj1) hl)
  · exact hl
  · exact absurd (show (l.map f)[j]'(by simpa using hj1) = (l.map f)[i]'(by simpa using hi1) from by simp [hi2, hj2, h]) (hw j i (by simpa using hj1) (by simpa using hi1) hl)
/-- One is taken: what is left then. -/
theorem KV.rem_next (h : KV ek va ok M es c kv) {seen : Array Nat} {e : MapEntry} (he : e ∈ (leftOf es seen).toList) :
    ∃ p, p ∈ remOf es kv seen ∧ e ∈ es.toList ∧ e.key = ek p.1 ∧ e.val = va p.2 ∧ (∀ q, q ∈ remOf es kv (seen.push e.born) ↔ q ∈ remOf es kv seen ∧ q ≠ p) ∧ (remOf es kv (seen.push e.born)).length < (remOf es kv seen).length := by
  rw [h.left, List.mem_map] at he
  obtain ⟨z, hz, rfl⟩ := he
  have hz' := List.mem_filter.1 hz
  obtain ⟨j, h1, h2, h3, h4⟩ := h.zip_at hz'.1
  have key : ∀ y ∈ es.toList.zip kv, (y.1.born = z.1.born ↔ y.2 = z.2) := fun y hy => by
    obtain ⟨i, i1, i2, _, _⟩ := h.zip_at hy
    constructor
    · intro e
      have := nodup_at (f := fun x : MapEntry => x.born) h.born i1 h1 e
      subst this
      rw [i2] at h2; exact Option.some.inj h2
    · intro e
      have := nodup_fst h.nodup i2 h2 (by rw [e])
      subst this
      rw [i1] at h1; rw [Option.some.inj h1]
  have hf : zipOf es kv (seen.push z.1.born) = (zipOf es kv seen).filter (fun y => !(y.1.born == z.1.born)) := by
    unfold zipOf
    rw [List.filter_filter]
    refine List.filter_congr fun y hy => ?_
    simp only [Array.contains_push, Bool.not_or]
    rw [Bool.and_comm]
  refine ⟨z.2, List.mem_map.2 ⟨z, hz, rfl⟩, List.mem_of_getElem? h1, h3, h4, fun q => ?_, ?_⟩
  · unfold remOf
    rw [hf]
    constructor
    · intro hq
      obtain ⟨y, hy, rfl⟩ := List.mem_map.1 hq
      obtain ⟨y1, y2⟩ := List.mem_filter.1 hy
      have y3 := (List.mem_filter.1 y1).1
      refine ⟨List.mem_map.2 ⟨y, y1, rfl⟩, fun e => ?_⟩
      have := (key y y3).2 e
      simp [this] at y2
    · rintro ⟨hq, hne⟩
      obtain ⟨y, hy, rfl⟩ := List.mem_map.1 hq
      have y3 := (List.mem_filter.1 hy).1
      refine List.mem_map.2 ⟨y, List.mem_filter.2 ⟨hy, ?_⟩, rfl⟩
      have : ¬ y.1.born = z.1.born := fun e => hne ((key y y3).1 e)
      simp [this]
  · unfold remOf
    rw [hf, List.length_map, List.length_map]
    exact List.length_filter_lt_length_iff_exists.2 ⟨z, hz, by simp⟩
def CurOk (ek : κ → Value) (va : α → Value) (es : Array MapEntry) (seen : Array Nat) : Option (κ × α) → Prop
  | none => True
  | some p => ∃ (seen0 : Array Nat) (e : MapEntry), seen = seen0.push e.born ∧ e ∈ es.toList ∧ e.key = ek p.1 ∧ e.val = va p.2
/-- A map and an iterator over it: what is left, what was handed out last. -/
def MpR (ek : κ → Value) (va : α → Value) (ok : κ → Prop) (g r : Nat) (M : κ → Option α) (rem : List (κ × α)) (cur : Option (κ × α)) : Item :=
  ⟨fun j => j = g ∨ j = r, fun w => g ≠ r ∧ ∃ es c kv seen since st, w.heap[g]? = some (.map es c) ∧ KV ek va ok M es c kv ∧ w.heap[r]? = some (.mapIter (some g) since seen st) ∧ (∀ e ∈ es.toList, e.born < since) ∧ (since ≤ st ∧ since ≤ c) ∧ rem = remOf es kv seen ∧ (cur.isSome = true → st = c) ∧ CurOk ek va es seen cur, fun h k => by
    obtain ⟨hn, es, c, kv, seen, since, st, h1, h2, h3, h4⟩ := k
    exact ⟨hn, es, c, kv, seen, since, st, (h.block g (.inl rfl)).trans h1, h2, (h.block r (.inr rfl)).trans h3, h4⟩⟩
variable {P : Program} {N : Nat} {Q : Exit → Act → World → Prop} {f : Fr} {ds : List Deferred} {w w' : World} {o : Oper} {ops : Array Oper} {L : List Item} {K : Act → World → Prop}
theorem S.unR {k0 g r : Nat} {rem : List (κ × α)} {cur : Option (κ × α)} (H : S w L) (hk : L[k0]? = some (MpR ek va ok g r M rem cur)) : S w (L.set k0 (Mp ek va ok g M)) := by
  have h := H.at hk
  obtain ⟨hn, es, c, kv, seen, since, st, h1, h2, h3, h4⟩ := h
  refine H.turn hk Same.rfl' ⟨es, c, kv, h1, h2⟩ (fun j hj => ?_)
  have hj : j = g := hj
  exact ⟨.inl (.inl hj), H.lt hk (.inl hj)⟩
/-- The next one: nothing is left, or one of those that are. -/
theorem s_next {d : TypeId} {y : Operand} {g r : Nat} {rem : List (κ × α)} {cur : Option (κ × α)} (H : S w L) (k0 : Nat) (hw : Wt ops f o) (hd : o.dst = some d) (hN : Nat.blt d N = true) (hk : L[k0]? = some (MpR ek va ok g r M rem cur)) (ho : o.op = .next y false) (hy : evo f y = some (.pointer (some ⟨r, 0, none⟩)))
    (h0 : rem = [] → G N K ((d, .tuple #[.bool false]) :: f) ds w)
    (h1 : ∀ p rem' w', p ∈ rem → ok p.1 → M p.1 = some p.2 → (∀ q, q ∈ rem' ↔ q ∈ rem ∧ q ≠ p) → rem'.length < rem.length → S w' (L.set k0 (MpR ek va ok g r M rem' (some p))) → G N K ((d, .tuple #[.bool true, ek p.1, va p.2]) :: f) ds w') : G N (StepK P ops Q o K) f ds w := by
  obtain ⟨hn, es, c, kv, seen, since, st, hb, hkv, hr, hold, hsc, hrem, _, hcur⟩ := H.at hk
  rcases run_next_at (P := P) w o.type r g since st seen es c hr hb hold hsc.1 with ⟨h2, h3⟩ | ⟨e, he, w1, hw1, h3⟩
  · refine s_val hw hd hN (ex_of (x := Instr.next (.pointer (some ⟨r, 0, none⟩)) false o.type) (fun a ha => by unfold execOp; simp only [ho, ha.eval hy]) h3) (h0 ?_)
    rw [hrem]
    unfold remOf
    have h4 := hkv.left seen
    have h5 : (leftOf es seen).toList = [] := by
      have : (leftOf es seen).toList.length = 0 := by simpa using h2
      exact List.eq_nil_of_length_eq_zero this
    rw [h5] at h4
    have : zipOf es kv seen = [] := List.map_eq_nil_iff.1 h4.symm
    rw [this]; rfl
  · obtain ⟨p, p1, p2, p3, p4, p5, p6⟩ := hkv.rem_next he
    have hpk : p ∈ kv := by
      obtain ⟨z, hz, rfl⟩ := List.mem_map.1 p1
      obtain ⟨j, _, j2, _⟩ := hkv.zip_at (List.mem_filter.1 hz).1
      exact List.mem_of_getElem? j2
    have hp := (hkv.is p).1 hpk
    rw [p3, p4] at h3
    refine s_val hw hd hN (ex_of (x := Instr.next (.pointer (some ⟨r, 0, none⟩)) false o.type) (fun a ha => by unfold execOp; simp only [ho, ha.eval hy]) h3) (h1 p (remOf es kv (seen.push e.born)) _ (hrem ▸ p1) hp.1 hp.2 (by rw [hrem]; exact p5) (by rw [hrem]; exact p6) ?_)
    have hw1h : w1.heap = w.heap := by rcases hw1 with rfl | rfl <;> rfl
    have hr1 : w1.heap[r]? = some (.mapIter (some g) since seen st) := by rw [hw1h]; exact hr
    have hS1 : S w1 L := by
      rcases hw1 with rfl | rfl
      · exact H
      · exact H.drew
    refine hS1.turn hk ((same_setBlock w1 r _).less fun j hj => fun e => hj.2 (.inr e)) ⟨hn, es, c, kv, _, since, c, ?_, hkv, heap_setBlock hr1, hold, ⟨hsc.2, hsc.2⟩, rfl, fun _ => rfl, seen, e, rfl, p2, p3, p4⟩ (fun j hj => ⟨.inl hj, ?_⟩)
    · rw [(same_setBlock w1 r _).block g hn, hw1h]; exact hb
    · exact Nat.lt_of_lt_of_le (hS1.lt hk hj) (same_setBlock w1 r _).size
theorem x_entry {t k e0 : TypeId} {y : Operand} {g r : Nat} {rem : List (κ × α)} {p : κ × α} (H : S w L) (k0 : Nat) (hk : L[k0]? = some (MpR ek va ok g r M rem (some p))) (ho : o.op = .entry y) (hy : evo f y = some (.pointer (some ⟨r, 0, none⟩))) : Ex P N f ds o w (.tuple #[ek p.1, va p.2]) w :=
  ex_of (x := Instr.entry (.pointer (some ⟨r, 0, none⟩))) (fun a ha => by unfold execOp; simp only [ho, ha.eval hy]) (by
    obtain ⟨hn, es, c, kv, seen, since, st, hb, hkv, hr, hold, hsc, hrem, hst, seen0, e, rfl, h2, h3, h4⟩ := H.at hk
    have hst := hst rfl
    subst hst
    rw [run_entry_at w r g since seen0 es _ e hr hb h2 hkv.born, h3, h4])
end
end Go.Proofs.YthfglkkjkpdkpaaDoor
