import Derived.Test.YthfglkkjkpdkpaaGreatDoorFe
set_option linter.unusedSimpArgs false
set_option linter.unusedVariables false
namespace Go.Proofs.YthfglkkjkpdkpaaGreatDoor
open Go.RowKit
open Go.Maps (Keyed)
open Go.ChangeMaps (setBlock)

/-! ## A range over a map -/
section
variable {κ α : Type} {ek : κ → Value} {va : α → Value} {ok : κ → Prop} {M : κ → Option α} {es : Array MapEntry} {c : Nat} {kv : List (κ × α)}
/-- What is left. -/
def zipOf (es : Array MapEntry) (kv : List (κ × α)) (seen : Array Nat) : List (MapEntry × (κ × α)) := (es.toList.zip kv).filter (fun z => !seen.contains z.1.born)
def remOf (es : Array MapEntry) (kv : List (κ × α)) (seen : Array Nat) : List (κ × α) := (zipOf es kv seen).map Prod.snd
theorem KV.fst_zip (h : KV ek va ok M es c kv) : (es.toList.zip kv).map Prod.fst = es.toList := List.map_fst_zip (by have := h.len; simp; omega)
theorem KV.left (h : KV ek va ok M es c kv) (seen : Array Nat) : (leftOf es seen).toList = (zipOf es kv seen).map Prod.fst := by
  unfold leftOf zipOf
  rw [Array.toList_filter]
  conv => lhs; rw [← h.fst_zip]
  rw [List.filter_map]; rfl
def CurOk (ek : κ → Value) (va : α → Value) (es : Array MapEntry) (seen : Array Nat) : Option (κ × α) → Prop
  | none => True
  | some p => ∃ (seen0 : Array Nat) (e : MapEntry), seen = seen0.push e.born ∧ e ∈ es.toList ∧ e.key = ek p.1 ∧ e.val = va p.2
/-- A map and an iterator over it: what is left, what was handed out last. -/
def MpR (ek : κ → Value) (va : α → Value) (ok : κ → Prop) (g r : Nat) (M : κ → Option α) (rem : List (κ × α)) (cur : Option (κ × α)) : Item :=
  ⟨fun j => j = g ∨ j = r, fun w => g ≠ r ∧ ∃ es c kv seen since st, w.heap[g]? = some (.map es c) ∧ KV ek va ok M es c kv ∧ w.heap[r]? = some (.mapIter (some g) since seen st) ∧ (∀ e ∈ es.toList, e.born < since) ∧ (since ≤ st ∧ since ≤ c) ∧ rem = remOf es kv seen ∧ (cur.isSome = true → st = c) ∧ CurOk ek va es seen cur, fun h k => by
    obtain ⟨hn, es, c, kv, seen, since, st, h1, h2, h3, h4⟩ := k
    exact ⟨hn, es, c, kv, seen, since, st, (h.block g (.inl rfl)).trans h1, h2, (h.block r (.inr rfl)).trans h3, h4⟩⟩
variable {P : Program} {N : Nat} {Q : Exit → Act → World → Prop} {f : Fr} {ds : List Deferred} {w w' : World} {o : Oper} {ops : Array Oper} {L : List Item} {K : Act → World → Prop}
end
end Go.Proofs.YthfglkkjkpdkpaaGreatDoor
