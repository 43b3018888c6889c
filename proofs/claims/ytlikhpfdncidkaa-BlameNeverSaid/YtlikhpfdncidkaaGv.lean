import Derived.Test.YtlikhpfdncidkaaGt
set_option linter.unusedSimpArgs false
set_option linter.unusedVariables false
namespace Go.Proofs.Ytlikhpfdncidkaa
open Go.RowKit

/-! ## Maps that are nil; a family of maps -/
section
variable {P : Program} {N : Nat} {Q : Exit → Act → World → Prop} {f : Fr} {ds : List Deferred} {w w' : World} {o : Oper} {ops : Array Oper} {L : List Item} {K : Act → World → Prop}
theorem s_rangeNil {t k e d : TypeId} {y : Operand} (H : S w L) (hw : Wt ops f o) (hd : o.dst = some d) (hN : Nat.blt d N = true) (ho : o.op = .range t y) (hy : evo f y = some (.map none)) (hu : P.underlying t = some (.map k e))
    (h : ∀ r w', S w' (Ob r (.mapIter none 0 #[] 0) :: L) → G N K ((d, .pointer (some ⟨r, 0, none⟩)) :: f) ds w') : G N (StepK P ops Q o K) f ds w := by
  have hrun : (Instr.range t (.map none)).run P w = .ok (.pointer (some ⟨w.heap.size, 0, none⟩)) (w.alloc (.mapIter none 0 #[] 0)) := by
    simp [Instr.range, run_underlying hu, newObj, Sem.run, Result.andThen]
  exact s_val hw hd hN (ex_of (x := Instr.range t (.map none)) (fun a ha => by unfold execOp; simp only [ho, ha.eval hy]) hrun) (h _ _ (H.alloc _))
theorem x_nextNil {y : Operand} {r : Nat} (H : S w L) (k0 : Nat) (hk : L[k0]? = some (Ob r (.mapIter none 0 #[] 0))) (ho : o.op = .next y false) (hy : evo f y = some (.pointer (some ⟨r, 0, none⟩))) : Ex P N f ds o w (.tuple #[.bool false]) w := by
  have hb := H.ob hk
  refine ex_of (x := Instr.next (.pointer (some ⟨r, 0, none⟩)) false o.type) (fun a ha => by unfold execOp; simp only [ho, ha.eval hy]) ?_
  simp [Instr.next, getObj, Sem.run, hb, Result.andThen]
theorem x_lookupNil {t k e : TypeId} {m y : Operand} {z v : Value} (hu : P.underlying t = some (.map k e)) (ho : o.op = .lookup t m y true) (hm : evo f m = some (.map none)) (hy : evo f y = some v) (hz : zeO P e = some z) (hc : (Instr.checkKey true 10000 k v).run P w = .ok () w) (hk : (Instr.findKey k v []).run P w = .ok none w) : Ex P N f ds o w (.tuple #[z, .bool false]) w := by
  refine ex_of (x := Instr.lookup t (.map none) v true) (fun a ha => by unfold execOp; simp only [ho, ha.eval hm, ha.eval hy]) ?_
  simp [Instr.lookup, run_underlying hu, run_ze hz, hc, hk, Result.andThen]
theorem x_lenNil {x : Operand} {t k e : TypeId} (ho : o.op = .call { callee := .builtin .len, args := #[x], argTypes := #[t] }) (hx : evo f x = some (.map none)) (hu : P.underlying t = some (.map k e)) : Ex P N f ds o w (.int .i64 0) w :=
  x_builtin (vs := [.map none]) ho (by simp only [evs, hx]) (fun cs => by simp [builtin, Builtin.len_, run_underlying hu, goInt])
variable {κ α : Type} {ek : κ → Value} {va : α → Value} {ok : κ → Prop} {M : κ → Option α}
theorem s_rangeN {t k e d : TypeId} {y : Operand} {g : Nat} (T : MapTy P t k e ek ok) (H : S w L) (k0 : Nat) (hw : Wt ops f o) (hd : o.dst = some d) (hN : Nat.blt d N = true) (hk : L[k0]? = some (Mp ek va ok g M)) (ho : o.op = .range t y) (hy : evo f y = some (.map (some g)))
    (h : ∀ r rem w', (rem.map Prod.fst).Nodup → (∀ p, p ∈ rem ↔ ok p.1 ∧ M p.1 = some p.2) → S w' (L.set k0 (MpR ek va ok g r M rem none)) → G N K ((d, .pointer (some ⟨r, 0, none⟩)) :: f) ds w') : G N (StepK P ops Q o K) f ds w := by
  obtain ⟨es, c, kv, hb, hkv⟩ := H.mp hk
  have hgl : g < w.heap.size := (Array.getElem?_eq_some_iff.1 hb).1
  have hrun : (Instr.range t (.map (some g))).run P w = .ok (.pointer (some ⟨w.heap.size, 0, none⟩)) (w.alloc (.mapIter (some g) c #[] c)) := by
    simp [Instr.range, run_underlying T.ht, MapKept.run_getObj_map hb, newObj, Sem.run, Result.andThen]
  have hs : Same (fun j => j < w.heap.size) w (w.alloc (.mapIter (some g) c #[] c)) := ⟨rfl, rfl, rfl, by simp, fun j hj => Below.heap_alloc _ _ _ hj⟩
  have hrem : remOf es kv #[] = kv := by
    unfold remOf zipOf
    rw [List.filter_eq_self.2 (fun z _ => by simp)]
    exact List.map_snd_zip (by have := hkv.len; simp; omega)
  refine s_val hw hd hN (ex_of (x := Instr.range t (.map (some g))) (fun a ha => by unfold execOp; simp only [ho, ha.eval hy]) hrun) (h _ kv _ hkv.nodup hkv.is ?_)
  refine H.turn hk (hs.less fun j hj => hj.1) ⟨by omega, es, c, kv, #[], c, c, ?_, hkv, heap_alloc_new w _, hkv.old, ⟨Nat.le_refl _, Nat.le_refl _⟩, hrem.symm, fun h => Bool.noConfusion h, trivial⟩ (fun j hj => ?_)
  · rw [Below.heap_alloc _ _ _ hgl]; exact hb
  · rcases hj with rfl | rfl
    · exact ⟨.inl rfl, by simp; omega⟩
    · exact ⟨.inr (Nat.le_refl _), by simp⟩
/-- Maps of one kind, each in a block of its own. -/
def FamM (ek : κ → Value) (va : α → Value) (ok : κ → Prop) (ms : List Nat) (ct : Nat → κ → Option α) : Item := Big (ms.map fun x => Mp ek va ok x (ct x))
variable {ms : List Nat} {ct : Nat → κ → Option α}
theorem S.famMnodup {k : Nat} (h : S w L) (hk : L[k]? = some (FamM ek va ok ms ct)) : ms.Nodup := by
  have h1 : S w (ms.map fun x => Mp ek va ok x (ct x)) := h.at hk
  have h2 := h1.2
  rw [List.pairwise_map] at h2
  exact h2.imp fun hab e => hab _ rfl e
theorem S.famMget {k x : Nat} (h : S w L) (hk : L[k]? = some (FamM ek va ok ms ct)) (hx : x ∈ ms) : S w [Mp ek va ok x (ct x)] := by
  have h1 : S w (ms.map fun x => Mp ek va ok x (ct x)) := h.at hk
  exact h1.sublist (List.singleton_sublist.2 (List.mem_map.2 ⟨x, hx, rfl⟩))
theorem S.famMnil (h : S w L) (ct : Nat → κ → Option α) : S w (FamM ek va ok [] ct :: L) :=
  h.cons (show S w [] from S.nil w) (fun g hg => by obtain ⟨_, h, _⟩ := hg; cases h) (fun _ _ g hg => by obtain ⟨_, h, _⟩ := hg; cases h)
theorem S.famMout {x : Nat} (h : S w (FamM ek va ok ms ct :: L)) (hx : x ∈ ms) : S w (Mp ek va ok x (ct x) :: FamM ek va ok (ms.erase x) ct :: L) := by
  have h1 : S w (ms.map (fun x => Mp ek va ok x (ct x)) ++ L) := h.unbig
  have hp : (ms.map fun x => Mp ek va ok x (ct x)).Perm (Mp ek va ok x (ct x) :: (ms.erase x).map fun x => Mp ek va ok x (ct x)) := (List.perm_cons_erase hx).map fun x => Mp ek va ok x (ct x)
  have h2 := h1.perm (hp.append_right L)
  have h3 : S w ((ms.erase x).map (fun x => Mp ek va ok x (ct x)) ++ (Mp ek va ok x (ct x) :: L)) := h2.perm (List.perm_middle.symm)
  exact h3.big.perm (List.Perm.swap ..)
theorem S.famMin {x : Nat} {c : κ → Option α} (h : S w (Mp ek va ok x c :: FamM ek va ok (ms.erase x) ct :: L)) (hx : x ∈ ms) (hn : ms.Nodup) : S w (FamM ek va ok ms (upd ct x c) :: L) := by
  have h1 : S w (FamM ek va ok (ms.erase x) ct :: (Mp ek va ok x c :: L)) := h.perm (List.Perm.swap ..)
  have h2 : S w ((ms.erase x).map (fun x => Mp ek va ok x (ct x)) ++ (Mp ek va ok x c :: L)) := h1.unbig
  have e1 : (ms.erase x).map (fun y => Mp ek va ok y (ct y)) = (ms.erase x).map (fun y => Mp ek va ok y (upd ct x c y)) :=
    List.map_congr_left fun y hy => by rw [upd_ne (show ¬ y = x from fun e => hn.not_mem_erase (e ▸ hy))]
  rw [e1] at h2
  have h3 : S w (((Mp ek va ok x c) :: (ms.erase x).map (fun y => Mp ek va ok y (upd ct x c y))) ++ L) := h2.perm List.perm_middle
  have hp : (ms.map fun y => Mp ek va ok y (upd ct x c y)).Perm (Mp ek va ok x c :: (ms.erase x).map fun y => Mp ek va ok y (upd ct x c y)) := by
    have := (List.perm_cons_erase hx).map fun y => Mp ek va ok y (upd ct x c y)
    rwa [List.map_cons, upd_same] at this
  exact (h3.perm (hp.symm.append_right L)).big
theorem S.famMcons {x : Nat} {c : κ → Option α} (h : S w (Mp ek va ok x c :: FamM ek va ok ms ct :: L)) : S w (FamM ek va ok (x :: ms) (upd ct x c) :: L) := by
  have hx : x ∉ ms := fun hx => by
    have := h.head.2.2 _ (List.mem_cons_self ..) x rfl
    exact this ⟨_, List.mem_map.2 ⟨x, hx, rfl⟩, rfl⟩
  have h1 : S w (FamM ek va ok ms ct :: (Mp ek va ok x c :: L)) := h.perm (List.Perm.swap ..)
  have h2 : S w (ms.map (fun x => Mp ek va ok x (ct x)) ++ (Mp ek va ok x c :: L)) := h1.unbig
  have e1 : ms.map (fun y => Mp ek va ok y (ct y)) = ms.map (fun y => Mp ek va ok y (upd ct x c y)) :=
    List.map_congr_left fun y hy => by rw [upd_ne (show ¬ y = x from fun e => hx (e ▸ hy))]
  rw [e1] at h2
  have h3 : S w (((Mp ek va ok x c) :: ms.map (fun y => Mp ek va ok y (upd ct x c y))) ++ L) := h2.perm List.perm_middle
  have h4 : S w (((x :: ms).map fun y => Mp ek va ok y (upd ct x c y)) ++ L) := by rw [List.map_cons, upd_same]; exact h3
  exact h4.big
theorem S.famMnew {x : Nat} {ob : Item} {i j : Nat} (h : S w L) (hi : L[i]? = some ob) (hfp : ob.fp x) (hj : L[j]? = some (FamM ek va ok ms ct)) (hne : i ≠ j) : x ∉ ms := fun hx =>
  pair_of h.2 hi hj hne x hfp ⟨_, List.mem_map.2 ⟨x, hx, rfl⟩, rfl⟩
end
end Go.Proofs.Ytlikhpfdncidkaa
