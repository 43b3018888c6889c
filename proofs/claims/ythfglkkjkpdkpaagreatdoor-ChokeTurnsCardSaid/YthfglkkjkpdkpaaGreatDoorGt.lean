import Derived.Test.YthfglkkjkpdkpaaGreatDoorGs
import Derived.LaidEqlPtr
set_option linter.unusedSimpArgs false
set_option linter.unusedVariables false
namespace Go.Proofs.YthfglkkjkpdkpaaGreatDoor
open Go.RowKit

/-! ## Two pointers compared; copy and store in a row -/
section
variable {P : Program} {N : Nat} {Q : Exit → Act → World → Prop} {f : Fr} {ds : List Deferred} {w w' : World} {o : Oper} {ops : Array Oper} {L : List Item} {K : Act → World → Prop}
/-- Maps by text. -/
abbrev okT : ByteArray → Prop := fun s => s.size ≤ 1048576
/-- How many keys a map has. -/
def KN {κ α : Type} (ok : κ → Prop) (M : κ → Option α) (n : Nat) : Prop := ∃ kv : List (κ × α), (kv.map Prod.fst).Nodup ∧ (∀ p : κ × α, p ∈ kv ↔ (ok p.1 ∧ M p.1 = some p.2)) ∧ n = kv.length
theorem s_lenMap {κ α : Type} {ek : κ → Value} {va : α → Value} {ok : κ → Prop} {M : κ → Option α} {t k e : TypeId} {d g : Nat} {x : Operand} (H : S w L) (k0 : Nat) (hw : Wt ops f o) (hd : o.dst = some d) (hN : Nat.blt d N = true)
    (hk : L[k0]? = some (Mp ek va ok g M)) (ho : o.op = .call { callee := .builtin .len, args := #[x], argTypes := #[t] }) (hx : evo f x = some (.map (some g))) (hu : P.underlying t = some (.map k e))
    (h : ∀ n : Nat, KN ok M n → G N K ((d, .int .i64 (n : Int)) :: f) ds w) : G N (StepK P ops Q o K) f ds w := by
  obtain ⟨es, c, kv, hb, hkv⟩ := H.mp hk
  have hl := hkv.len
  refine s_val hw hd hN (x_builtin (vs := [.map (some g)]) (v := .int .i64 (es.size : Int)) (w' := w) ho (by simp only [evs, hx]) (fun cs => by simp [builtin, Builtin.len_, run_underlying hu, goInt, Go.MapKept.run_getObj_map hb, Result.andThen])) (h es.size ⟨kv, hkv.nodup, hkv.is, hl⟩)
end
end Go.Proofs.YthfglkkjkpdkpaaGreatDoor
