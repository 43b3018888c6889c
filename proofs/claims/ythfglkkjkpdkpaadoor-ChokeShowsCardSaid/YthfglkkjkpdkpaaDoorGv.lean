import Derived.Test.YthfglkkjkpdkpaaDoorGt
set_option linter.unusedSimpArgs false
set_option linter.unusedVariables false
namespace Go.Proofs.YthfglkkjkpdkpaaDoor
open Go.RowKit

/-! ## Maps that are nil; a family of maps -/
section
variable {P : Program} {N : Nat} {Q : Exit → Act → World → Prop} {f : Fr} {ds : List Deferred} {w w' : World} {o : Oper} {ops : Array Oper} {L : List Item} {K : Act → World → Prop}
variable {κ α : Type} {ek : κ → Value} {va : α → Value} {ok : κ → Prop} {M : κ → Option α}
theorem s_rangeN {t k e d : TypeId} {y : Operand} {g : Nat} (T : MapTy P t k e ek ok) (H : S w L) (k0 : Nat) (hw : Wt ops f o) (hd : o.dst = some d) (hN : Nat.blt d N = true) (hk : L[k0]? = some (Mp ek va ok g M)) (ho : o.op = .range t y) (hy : evo f y = some (.map (some g)))
    (h : ∀ r rem w', (rem.map Prod.fst).Nodup → (∀ p, p ∈ rem ↔ ok p.1 ∧ M p.1 = some p.2) → S w' (L.set k0 (MpR ek va ok g r M rem none)) → G N K ((d, .pointer (some ⟨r, 0, none⟩)) :: f) ds w') : G N (StepK P ops Q o K) f ds w := by
  obtain ⟨es, c, kv, hb, hkv⟩ := H.mp hk
  have hgl : g < w.heap.size := (Array.getElem?_eq_some_iff.1 hb).1
  have hrun : (Instr.range t (.map (some g))).run P w = .ok (.pointer (some ⟨w.heap.size, 0, none⟩)) (w.alloc (.mapIter (some g) c #[] c)) := by
    simp [Instr.range, run_underlying T.ht, MapKept.run_getObj_map hb, newObj, Sem.run, Result.andThen]
  have hs : Same (fun j => j < w.heap.size) w (w.alloc (.mapIter (some g) c #[] c)) := ⟨rfl, rfl, rfl, by simp, fun j hj => Below.heap_alloc _ _ _ hj⟩
  have hrem : remOf es kv #[] = kv := by
    unfold remOf zipOf
    rw [List.filter_eq_self.2 (fun z _ => by simp)]
    exact List.map_snd_zip (by have := hkv.len; simp; omega)
  refine s_val hw hd hN (ex_of (x := Instr.range t (.map (some g))) (fun a ha => by unfold execOp; simp only [ho, ha.eval hy]) hrun) (h _ kv _ hkv.nodup hkv.is ?_)
  refine H.turn hk (hs.less fun j hj => hj.1) ⟨by omega, es, c, kv, #[], c, c, ?_, hkv, heap_alloc_new w _, hkv.old, ⟨Nat.le_refl _, Nat.le_refl _⟩, hrem.symm, fun h => Bool.noConfusion h, trivial⟩ (fun j hj => ?_)
  · rw [Below.heap_alloc _ _ _ hgl]; exact hb
  · rcases hj with rfl | rfl
    · exact ⟨.inl rfl, by simp; omega⟩
    · exact ⟨.inr (Nat.le_refl _), by simp⟩
/-- Maps of one kind, each in a block of its own. -/
def FamM (ek : κ → Value) (va : α → Value) (ok : κ → Prop) (ms : List Nat) (ct : Nat → κ → Option α) : Item := Big (ms.map fun x => Mp ek va ok x (ct x))
variable {ms : List Nat} {ct : Nat → κ → Option α}
end
end Go.Proofs.YthfglkkjkpdkpaaDoor
