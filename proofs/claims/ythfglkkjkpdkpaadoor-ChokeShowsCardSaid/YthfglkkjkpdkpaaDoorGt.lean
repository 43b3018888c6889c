import Derived.Test.YthfglkkjkpdkpaaDoorGs
import Derived.LaidEqlPtr
set_option linter.unusedSimpArgs false
set_option linter.unusedVariables false
namespace Go.Proofs.YthfglkkjkpdkpaaDoor
open Go.RowKit

/-! ## Two pointers compared; copy and store in a row -/
section
variable {P : Program} {N : Nat} {Q : Exit → Act → World → Prop} {f : Fr} {ds : List Deferred} {w w' : World} {o : Oper} {ops : Array Oper} {L : List Item} {K : Act → World → Prop}
/-- Maps by text. -/
abbrev okT : ByteArray → Prop := fun s => s.size ≤ 1048576
/-- How many keys a map has. -/
def KN {κ α : Type} (ok : κ → Prop) (M : κ → Option α) (n : Nat) : Prop := ∃ kv : List (κ × α), (kv.map Prod.fst).Nodup ∧ (∀ p : κ × α, p ∈ kv ↔ (ok p.1 ∧ M p.1 = some p.2)) ∧ n = kv.length
theorem s_lenMap {κ α : Type} {ek : κ → Value} {va : α → Value} {ok : κ → Prop} {M : κ → Option α} {t k e : TypeId} {d g : Nat} {x : Operand} (H : S w L) (k0 : Nat) (hw : Wt ops f o) (hd : o.dst = some d) (hN : Nat.blt d N = true)
    (hk : L[k0]? = some (Mp ek va ok g M)) (ho : o.op = .call { callee := .builtin .len, args := #[x], argTypes := #[t] }) (hx : evo f x = some (.map (some g))) (hu : P.underlying t = some (.map k e))
    (h : ∀ n : Nat, KN ok M n → G N K ((d, .int .i64 (n : Int)) :: f) ds w) : G N (StepK P ops Q o K) f ds w := by
  obtain ⟨es, c, kv, hb, hkv⟩ := H.mp hk
  have hl := hkv.len
  refine s_val hw hd hN (x_builtin (vs := [.map (some g)]) (v := .int .i64 (es.size : Int)) (w' := w) ho (by simp only [evs, hx]) (fun cs => by simp [builtin, Builtin.len_, run_underlying hu, goInt, Go.MapKept.run_getObj_map hb, Result.andThen])) (h es.size ⟨kv, hkv.nodup, hkv.is, hl⟩)
theorem KN_eq {κ α β : Type} {ok : κ → Prop} {M1 : κ → Option α} {M2 : κ → Option β} {n1 n2 : Nat} (h1 : KN ok M1 n1) (h2 : KN ok M2 n2) (h : ∀ s, ok s → ((M1 s).isSome = true ↔ (M2 s).isSome = true)) : n1 = n2 := by
  obtain ⟨kv1, a1, b1, rfl⟩ := h1
  obtain ⟨kv2, a2, b2, rfl⟩ := h2
  have hp : (kv1.map Prod.fst).Perm (kv2.map Prod.fst) := by
    rw [List.perm_ext_iff_of_nodup a1 a2]
    intro s
    have key : ∀ {γ : Type} {M : κ → Option γ} {kv : List (κ × γ)}, (∀ p : κ × γ, p ∈ kv ↔ (ok p.1 ∧ M p.1 = some p.2)) → (s ∈ kv.map Prod.fst ↔ ok s ∧ (M s).isSome = true) := fun {γ M kv} hb => by
      constructor
      · intro hs
        obtain ⟨p, hp, rfl⟩ := List.mem_map.1 hs
        obtain ⟨q1, q2⟩ := (hb p).1 hp
        exact ⟨q1, by rw [q2]; rfl⟩
      · rintro ⟨q1, q2⟩
        obtain ⟨b, hb2⟩ := Option.isSome_iff_exists.1 q2
        exact List.mem_map.2 ⟨(s, b), (hb (s, b)).2 ⟨q1, hb2⟩, rfl⟩
    rw [key b1, key b2]
    exact ⟨fun q => ⟨q.1, (h s q.1).1 q.2⟩, fun q => ⟨q.1, (h s q.1).2 q.2⟩⟩
  have := hp.length_eq
  simpa using this
end
end Go.Proofs.YthfglkkjkpdkpaaDoor
