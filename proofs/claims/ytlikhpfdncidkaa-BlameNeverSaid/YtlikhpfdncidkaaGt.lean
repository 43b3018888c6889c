import Derived.Test.YtlikhpfdncidkaaGs
import Derived.LaidEqlPtr
set_option linter.unusedSimpArgs false
set_option linter.unusedVariables false
namespace Go.Proofs.Ytlikhpfdncidkaa
open Go.RowKit

/-! ## Two pointers compared; copy and store in a row -/
section
variable {P : Program} {N : Nat} {Q : Exit → Act → World → Prop} {f : Fr} {ds : List Deferred} {w w' : World} {o : Oper} {ops : Array Oper} {L : List Item} {K : Act → World → Prop}
theorem b_eqPtr {t te n g h : Nat} {xo yo : Operand} {ca cb : Array Value} {ta tb : TypeId} (hp : P.underlying t = some (.pointer te)) (hz : szO P te = some n) (hn : n ≠ 0)
    (ha : w.heap[g]? = some (.cells ca ta (0, 0))) (hb : w.heap[h]? = some (.cells cb tb (0, 0))) :
    Bin P .eql t xo yo (.pointer (some ⟨g, 0, none⟩)) (.pointer (some ⟨h, 0, none⟩)) w (.bool (decide (g = h))) := by
  obtain ⟨j, hj, hjz⟩ : ∃ j, P.info? te = some j ∧ j.size = n := by
    unfold szO at hz
    cases hi : P.info? te with
    | none => rw [hi] at hz; cases hz
    | some j => rw [hi] at hz; exact ⟨j, rfl, by simpa using hz⟩
  have hr : (binOp .eql t (.pointer (some ⟨g, 0, none⟩)) (.pointer (some ⟨h, 0, none⟩))).run P w = .ok (.bool (decide (g = h))) w := by
    by_cases e : g = h
    · subst e
      rw [decide_eq_true rfl]
      exact run_eql_ptr_same w _ hp hj
    · rw [decide_eq_false e]
      exact run_eql_ptr_other w hp hj (by rw [hjz]; exact hn) (fun q => e (by cases q; rfl)) ha hb
  unfold Bin
  rw [Sem.run_bind]
  show ((Result.ok () w).andThen _ : Result Value) = _
  simp only [Result.andThen_ok]
  exact hr
/-- Maps by text. -/
abbrev okT : ByteArray → Prop := fun s => s.size ≤ 1048576
theorem strTy {t k e : TypeId} (ht : P.underlying t = some (.map k e)) (hk : P.underlying k = some .string) : MapTy P t k e Value.string okT :=
  ⟨ht, Go.Maps.string_keyed hk, fun x hx => ⟨_, Go.WideMaps.keyOf_string_mk hk (Nat.le_trans hx (by decide))⟩, fun x y _ _ h => by cases h; rfl⟩
/-- How many keys a map has. -/
def KN {κ α : Type} (ok : κ → Prop) (M : κ → Option α) (n : Nat) : Prop := ∃ kv : List (κ × α), (kv.map Prod.fst).Nodup ∧ (∀ p : κ × α, p ∈ kv ↔ (ok p.1 ∧ M p.1 = some p.2)) ∧ n = kv.length
theorem s_lenMap {κ α : Type} {ek : κ → Value} {va : α → Value} {ok : κ → Prop} {M : κ → Option α} {t k e : TypeId} {d g : Nat} {x : Operand} (H : S w L) (k0 : Nat) (hw : Wt ops f o) (hd : o.dst = some d) (hN : Nat.blt d N = true)
    (hk : L[k0]? = some (Mp ek va ok g M)) (ho : o.op = .call { callee := .builtin .len, args := #[x], argTypes := #[t] }) (hx : evo f x = some (.map (some g))) (hu : P.underlying t = some (.map k e))
    (h : ∀ n : Nat, KN ok M n → G N K ((d, .int .i64 (n : Int)) :: f) ds w) : G N (StepK P ops Q o K) f ds w := by
  obtain ⟨es, c, kv, hb, hkv⟩ := H.mp hk
  have hl := hkv.len
  refine s_val hw hd hN (x_builtin (vs := [.map (some g)]) (v := .int .i64 (es.size : Int)) (w' := w) ho (by simp only [evs, hx]) (fun cs => by simp [builtin, Builtin.len_, run_underlying hu, goInt, Go.MapKept.run_getObj_map hb, Result.andThen])) (h es.size ⟨kv, hkv.nodup, hkv.is, hl⟩)
theorem KN_eq {κ α β : Type} {ok : κ → Prop} {M1 : κ → Option α} {M2 : κ → Option β} {n1 n2 : Nat} (h1 : KN ok M1 n1) (h2 : KN ok M2 n2) (h : ∀ s, ok s → ((M1 s).isSome = true ↔ (M2 s).isSome = true)) : n1 = n2 := by
  obtain ⟨kv1, a1, b1, rfl⟩ := h1
  obtain ⟨kv2, a2, b2, rfl⟩ := h2
  have hp : (kv1.map Prod.fst).Perm (kv2.map Prod.fst) := by
    rw [List.perm_ext_iff_of_nodup a1 a2]
    intro s
    have key : ∀ {γ : Type} {M : κ → Option γ} {kv : List (κ × γ)}, (∀ p : κ × γ, p ∈ kv ↔ (ok p.1 ∧ M p.1 = some p.2)) → (s ∈ kv.map Prod.fst ↔ ok s ∧ (M s).isSome = true) := fun {γ M kv} hb => by
      constructor
      · intro hs
        obtain ⟨p, hp, rfl⟩ := List.mem_map.1 hs
        obtain ⟨q1, q2⟩ := (hb p).1 hp
        exact ⟨q1, by rw [q2]; rfl⟩
      · rintro ⟨q1, q2⟩
        obtain ⟨b, hb2⟩ := Option.isSome_iff_exists.1 q2
        exact List.mem_map.2 ⟨(s, b), (hb (s, b)).2 ⟨q1, hb2⟩, rfl⟩
    rw [key b1, key b2]
    exact ⟨fun q => ⟨q.1, (h s q.1).1 q.2⟩, fun q => ⟨q.1, (h s q.1).2 q.2⟩⟩
  have := hp.length_eq
  simpa using this
theorem S.famNew {α : Type} {e : TypeId} {enc : α → Array Value} {gs : List Nat} {tk : Nat → α} {x : Nat} {ob : Obj} {i j : Nat} (h : S w L) (hi : L[i]? = some (Ob x ob)) (hj : L[j]? = some (Fam e enc gs tk)) (hne : i ≠ j) : x ∉ gs := fun hx => pair_of h.2 hi hj hne x rfl hx
end
end Go.Proofs.Ytlikhpfdncidkaa
