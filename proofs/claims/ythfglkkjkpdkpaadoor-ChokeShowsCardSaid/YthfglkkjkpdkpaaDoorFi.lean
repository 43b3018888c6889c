import Derived.Test.YthfglkkjkpdkpaaDoorFh
import Derived.Test.YthfglkkjkpdkpaaDoorFg
import Derived.LoopN
set_option linter.unusedSimpArgs false
set_option linter.unusedVariables false
namespace Go.Proofs.YthfglkkjkpdkpaaDoor
open Go.RowKit
open Go.ChangeMaps (setBlock)

/-! ## Loops round by round; clear; delete -/
section
variable {P : Program} {N : Nat} {Q : Exit → Act → World → Prop} {f : Fr} {ds : List Deferred} {w w' : World} {o : Oper} {ops : Array Oper} {L : List Item} {K : Act → World → Prop}
end
section
variable {κ α : Type} {ek : κ → Value} {va : α → Value} {ok : κ → Prop}
theorem map_erase {α β : Type} (f : α → β) : ∀ (l : List α) (j : Nat), (l.eraseIdx j).map f = (l.map f).eraseIdx j
  | [], _ => rfl
  | a :: l, 0 => rfl
  | a :: l, j + 1 => by simp only [List.eraseIdx_cons_succ, List.map_cons, map_erase f l j]
theorem erase_list (es : Array MapEntry) (j : Nat) : (es.eraseIdxIfInBounds j).toList = es.toList.eraseIdx j := by
  unfold Array.eraseIdxIfInBounds
  split
  · simp
  · rename_i h
    rw [List.eraseIdx_of_length_le (by simpa using h)]
def delM {κ α : Type} [DecidableEq κ] (M : κ → Option α) (x : κ) : κ → Option α := fun y => if y = x then none else M y
theorem KV.del {κ α : Type} [DecidableEq κ] {ek : κ → Value} {va : α → Value} {ok : κ → Prop} {M : κ → Option α} {es : Array MapEntry} {c : Nat} {kv : List (κ × α)} (h : KV ek va ok M es c kv) {x : κ} {b : α} {j : Nat} (hj : kv[j]? = some (x, b)) : KV ek va ok (delM M x) (es.eraseIdxIfInBounds j) c (kv.eraseIdx j) := by
  refine ⟨?_, ?_, ?_, ?_, ?_, ?_⟩
  · rw [erase_list, map_erase, map_erase, h.same]
  · rw [map_erase]; exact h.nodup.sublist (List.eraseIdx_sublist _ _)
  · exact fun p hp => h.oks p (List.mem_of_mem_eraseIdx hp)
  · rw [erase_list, map_erase]; exact h.born.sublist (List.eraseIdx_sublist _ _)
  · intro e he
    rw [erase_list] at he
    exact h.old e (List.mem_of_mem_eraseIdx he)
  · intro p
    unfold delM
    constructor
    · intro hp
      obtain ⟨i, hi, hpi⟩ := List.mem_eraseIdx_iff_getElem?.1 hp
      obtain ⟨h1, h2⟩ := (h.is p).1 (List.mem_of_getElem? hpi)
      refine ⟨h1, ?_⟩
      rw [if_neg (fun e => hi (nodup_fst h.nodup hpi hj e))]
      exact h2
    · rintro ⟨h1, h2⟩
      split at h2
      · cases h2
      · rename_i hne
        obtain ⟨i, hi⟩ := List.getElem?_of_mem ((h.is p).2 ⟨h1, h2⟩)
        refine List.mem_eraseIdx_iff_getElem?.2 ⟨i, fun e => ?_, hi⟩
        subst e
        rw [hj] at hi
        cases hi
        exact hne rfl
theorem KV.delNone {κ α : Type} [DecidableEq κ] {ek : κ → Value} {va : α → Value} {ok : κ → Prop} {M : κ → Option α} {es : Array MapEntry} {c : Nat} {kv : List (κ × α)} (h : KV ek va ok M es c kv) {x : κ} (hM : M x = none) : KV ek va ok (delM M x) es c kv := by
  have e : delM M x = M := by
    funext y
    unfold delM
    split
    · rename_i h; rw [h, hM]
    · rfl
  rw [e]; exact h
variable {P : Program} {N : Nat} {Q : Exit → Act → World → Prop} {f : Fr} {ds : List Deferred} {w w' : World} {o : Oper} {ops : Array Oper} {L : List Item} {K : Act → World → Prop} {M : κ → Option α}
theorem s_delete {κ α : Type} [DecidableEq κ] {ek : κ → Value} {va : α → Value} {ok : κ → Prop} {M : κ → Option α} {t k e : TypeId} {m y : Operand} {g : Nat} {x : κ} (T : MapTy P t k e ek ok) (H : S w L) (k0 : Nat) (hw : Wt ops f o) (hd : o.dst = none) (hk : L[k0]? = some (Mp ek va ok g M))
    (ho : o.op = .call { callee := .builtin .delete, args := #[m, y], argTypes := #[t, k] }) (hm : evo f m = some (.map (some g))) (hy : evo f y = some (ek x)) (hx : ok x)
    (h : ∀ w', S w' (L.set k0 (Mp ek va ok g (delM M x))) → G N K f ds w') : G N (StepK P ops Q o K) f ds w := by
  obtain ⟨es, c, kv, hb, hkv⟩ := H.mp hk
  obtain ⟨l, hl⟩ := T.key x hx
  have hrun : ∃ es' kv', (∀ ty, (Builtin.delete_ #[t, k] ty #[.map (some g), ek x]).run P w = .ok (.tuple #[]) (setBlock w g (.map es' c))) ∧ KV ek va ok (delM M x) es' c kv' := by
    rcases hkv.find T w hx with ⟨h1, h2⟩ | ⟨j, b, h1, h2, h3, q, hq, hqk⟩
    · refine ⟨es, kv, fun ty => ?_, hkv.delNone h1⟩
      simp [Builtin.delete_, run_underlying T.ht, MapKept.run_getObj_map hb, T.K.check w _ hl, h2, MapKept.run_setObj_map _ hb, Result.andThen, setBlock]
    · refine ⟨_, _, fun ty => ?_, hkv.del h2⟩
      simp [Builtin.delete_, run_underlying T.ht, MapKept.run_getObj_map hb, T.K.check w _ hl, h3, MapKept.run_setObj_map _ hb, Result.andThen, setBlock]
  obtain ⟨es', kv', hrun, hkv'⟩ := hrun
  refine s_val0 hw hd (x_builtin (vs := [.map (some g), ek x]) (v := .tuple #[]) (w' := setBlock w g (.map es' c)) ho (by simp only [evs, hm, hy]) (fun cs => by simp only [builtin, hrun, Sem.run_bind, Result.andThen_ok, Sem.run_pure])) (h _ ?_)
  exact H.turn hk ((same_setBlock w g _).less fun j hj => hj.2) ⟨es', c, kv', heap_setBlock hb, hkv'⟩ (fun j hj => by
    have : j = g := hj
    exact ⟨.inl this, Nat.lt_of_lt_of_le (H.lt hk this) (same_setBlock w g _).size⟩)
end
end Go.Proofs.YthfglkkjkpdkpaaDoor
