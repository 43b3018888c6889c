import Derived.Test.YtlikhpfdncidkaaFh
import Derived.Test.YtlikhpfdncidkaaFg
import Derived.LoopN
set_option linter.unusedSimpArgs false
set_option linter.unusedVariables false
namespace Go.Proofs.Ytlikhpfdncidkaa
open Go.RowKit
open Go.ChangeMaps (setBlock)

/-! ## Loops round by round; clear; delete -/
section
variable {P : Program} {N : Nat} {Q : Exit → Act → World → Prop} {f : Fr} {ds : List Deferred} {w w' : World} {o : Oper} {ops : Array Oper} {L : List Item} {K : Act → World → Prop}
theorem g_rounds {c : Code} (n : Nat) (h : G N (Code.rounds P c Q n) f ds w) : G N ((Code.loop c).wp P Q) f ds w := fun a ha => wp_loop_rounds n (h a ha)
theorem g_roundU {c : Code} {n : Nat} (h : G N (c.wp P (Exit.then (Code.rounds P c Q n) Q)) f ds w) : G N (Code.rounds P c Q (n + 1)) f ds w := h
theorem zero_ones {z : Value} {n : Nat} (h1 : z.cells.toList.all (·.oneCell') = true) (hs : 0 < z.cells.size) : ∀ v ∈ (Builtin.zeroCells z.cells n).toList, v.oneCell' = true := fun v hv => by
  unfold Builtin.zeroCells at hv
  rw [Array.toList_map] at hv
  obtain ⟨i, _, rfl⟩ := List.mem_map.1 hv
  have hi : i % z.cells.size < z.cells.size := Nat.mod_lt _ hs
  rw [getElem!_pos z.cells _ hi]
  exact List.all_eq_true.1 h1 _ (by simp)
theorem zero_len (cs : Array Value) (n : Nat) : (Builtin.zeroCells cs n).toList.length = n * cs.size := by unfold Builtin.zeroCells; simp
theorem s_clear {t e size n c i : Nat} {x : Operand} {z : Value} {p : Option Addr} {xs : List Value} (H : S w L) (k : Nat) (hw : Wt ops f o) (hd : o.dst = none) (ho : o.op = .call { callee := .builtin .clear, args := #[x], argTypes := #[t] })
    (hx : evo f x = some (.slice (cutP p i c size) (n - i) (c - i))) (hk : L[k]? = some (Rw e size p n c xs)) (ht : P.underlying t = some (.slice e)) (hz : zeO P e = some z) (hzs : z.cells.size = size) (h1 : z.cells.toList.all (·.oneCell') = true) (hs : 0 < size) (hi : i ≤ n)
    (h : ∀ w', S w' (L.set k (Rw e size p i c (xs.take (i * size)))) → G N K f ds w') : G N (StepK P ops Q o K) f ds w := by
  obtain ⟨k1, k2, k3, k4⟩ := H.rw hk
  have his : i * size ≤ n * size := Nat.mul_le_mul_right _ hi
  have hic : i * size ≤ c * size := Nat.mul_le_mul_right _ (Nat.le_trans hi k2)
  have hns : n * size ≤ c * size := Nat.mul_le_mul_right _ k2
  have hl : (xs.take (i * size)).length = i * size := by rw [List.length_take]; omega
  have hxt : ∀ j u, (xs.take (i * size))[j]? = some u → j < i * size ∧ xs[j]? = some u := fun j u hu => by
    rw [List.getElem?_take] at hu
    split at hu
    · rename_i hj; exact ⟨hj, hu⟩
    · cases hu
  rcases Nat.eq_zero_or_pos (n - i) with h0 | h0
  · rw [h0] at hx
    have hr : ∀ ty, (Builtin.clear_ #[t] ty #[.slice (cutP p i c size) 0 (c - i)]).run P w = .ok (.tuple #[]) w := fun ty => by
      cases cutP p i c size <;> simp [Builtin.clear_, run_underlying ht]
    refine s_val0 hw hd (x_builtin (vs := [.slice (cutP p i c size) 0 (c - i)]) (v := .tuple #[]) (w' := w) ho (by simp only [evs, hx]) (fun cs => by simp [builtin, hr])) (h _ ?_)
    refine H.turn hk ⟨rfl, rfl, rfl, Nat.le_refl _, fun _ _ => rfl⟩ ⟨hl, by omega, k3, ?_⟩ (fun g hg => ⟨.inl hg, H.lt hk hg⟩)
    rcases k4 with ⟨q1, q2, q3⟩ | ⟨g, off, cur, q1, q2, q3, q4⟩
    · exact .inl ⟨q1, by omega, q3⟩
    · exact .inr ⟨g, off, cur, q1, q2, q3, fun j u hu => q4 j u (hxt j u hu).2⟩
  · rcases k4 with ⟨_, q2, _⟩ | ⟨g, off, cur, rfl, q2, q3, q4⟩
    · omega
    · have hc : cutP (some ⟨g, off, none⟩) i c size = some ⟨g, off + i * size, none⟩ := by
        unfold cutP
        rw [if_neg (by omega), Option.map_some, add_lit']
      rw [hc] at hx
      have hnl : (n - i) * size = n * size - i * size := Nat.sub_mul n i size
      have hst := run_storeCells_at P g (off + i * size) e (Builtin.zeroCells z.cells (n - i)).toList 0 cur w q2 (by rw [zero_len, hzs, hnl]; omega) (zero_ones h1 (by omega))
      have hr : ∀ ty, (Builtin.clear_ #[t] ty #[.slice (some ⟨g, off + i * size, none⟩) (n - i) (c - i)]).run P w = .ok (.tuple #[]) (w.setRow g (cur.toList.take (off + i * size) ++ (Builtin.zeroCells z.cells (n - i)).toList ++ cur.toList.drop (off + i * size + (Builtin.zeroCells z.cells (n - i)).toList.length)).toArray) := fun ty => by
        obtain ⟨m, hm⟩ : ∃ m, n - i = m + 1 := ⟨n - i - 1, by omega⟩
        rw [hm] at hst ⊢
        simp only [Nat.add_zero] at hst
        simp [Builtin.clear_, run_underlying ht, run_ze hz, hst]
      refine s_val0 hw hd (x_builtin (vs := [.slice (some ⟨g, off + i * size, none⟩) (n - i) (c - i)]) (v := .tuple #[]) (w' := w.setRow g (cur.toList.take (off + i * size) ++ (Builtin.zeroCells z.cells (n - i)).toList ++ cur.toList.drop (off + i * size + (Builtin.zeroCells z.cells (n - i)).toList.length)).toArray) ho (by simp only [evs, hx]) (fun cs => by simp only [builtin, hr, Sem.run_bind, Result.andThen_ok, Sem.run_pure])) (h _ ?_)
      have hlt : g < w.heap.size := (Array.getElem?_eq_some_iff.1 q2).1
      have hcl : cur.toList.length = cur.size := by simp
      refine H.turn hk ((same_setRow w g _).less fun b hb he => hb.2 ⟨off, by rw [he]⟩) ⟨hl, by omega, k3, .inr ⟨g, off, _, rfl, by simp only [World.setRow, Array.getElem?_modify, if_true, q2, Option.map_some]; rfl, ?_, fun j u hu => ?_⟩⟩ (fun b hb => ⟨.inl hb, ?_⟩)
      · simp only [List.size_toArray, List.length_append, List.length_take, List.length_drop, zero_len, hzs, hnl, hcl]; omega
      · obtain ⟨hj, hu⟩ := hxt j u hu
        simp only [List.getElem?_toArray]
        rw [List.append_assoc, List.getElem?_append, List.length_take, hcl, if_pos (by omega), List.getElem?_take, if_pos (by omega), Array.getElem?_toList]
        exact q4 j u hu
      · obtain ⟨o', ho'⟩ := hb
        have : b = g := by cases ho'; rfl
        rw [this]
        exact Nat.lt_of_lt_of_le hlt (same_setRow w g _).size
end
section
variable {κ α : Type} {ek : κ → Value} {va : α → Value} {ok : κ → Prop}
theorem map_erase {α β : Type} (f : α → β) : ∀ (l : List α) (j : Nat), (l.eraseIdx j).map f = (l.map f).eraseIdx j
  | [], _ => rfl
  | a :: l, 0 => rfl
  | a :: l, j + 1 => by simp only [List.eraseIdx_cons_succ, List.map_cons, map_erase f l j]
theorem erase_list (es : Array MapEntry) (j : Nat) : (es.eraseIdxIfInBounds j).toList = es.toList.eraseIdx j := by
  unfold Array.eraseIdxIfInBounds
  split
  · simp
  · rename_i h
    rw [List.eraseIdx_of_length_le (by simpa using h)]
def delM {κ α : Type} [DecidableEq κ] (M : κ → Option α) (x : κ) : κ → Option α := fun y => if y = x then none else M y
theorem KV.del {κ α : Type} [DecidableEq κ] {ek : κ → Value} {va : α → Value} {ok : κ → Prop} {M : κ → Option α} {es : Array MapEntry} {c : Nat} {kv : List (κ × α)} (h : KV ek va ok M es c kv) {x : κ} {b : α} {j : Nat} (hj : kv[j]? = some (x, b)) : KV ek va ok (delM M x) (es.eraseIdxIfInBounds j) c (kv.eraseIdx j) := by
  refine ⟨?_, ?_, ?_, ?_, ?_, ?_⟩
  · rw [erase_list, map_erase, map_erase, h.same]
  · rw [map_erase]; exact h.nodup.sublist (List.eraseIdx_sublist _ _)
  · exact fun p hp => h.oks p (List.mem_of_mem_eraseIdx hp)
  · rw [erase_list, map_erase]; exact h.born.sublist (List.eraseIdx_sublist _ _)
  · intro e he
    rw [erase_list] at he
    exact h.old e (List.mem_of_mem_eraseIdx he)
  · intro p
    unfold delM
    constructor
    · intro hp
      obtain ⟨i, hi, hpi⟩ := List.mem_eraseIdx_iff_getElem?.1 hp
      obtain ⟨h1, h2⟩ := (h.is p).1 (List.mem_of_getElem? hpi)
      refine ⟨h1, ?_⟩
      rw [if_neg (fun e => hi (nodup_fst h.nodup hpi hj e))]
      exact h2
    · rintro ⟨h1, h2⟩
      split at h2
      · cases h2
      · rename_i hne
        obtain ⟨i, hi⟩ := List.getElem?_of_mem ((h.is p).2 ⟨h1, h2⟩)
        refine List.mem_eraseIdx_iff_getElem?.2 ⟨i, fun e => ?_, hi⟩
        subst e
        rw [hj] at hi
        cases hi
        exact hne rfl
theorem KV.delNone {κ α : Type} [DecidableEq κ] {ek : κ → Value} {va : α → Value} {ok : κ → Prop} {M : κ → Option α} {es : Array MapEntry} {c : Nat} {kv : List (κ × α)} (h : KV ek va ok M es c kv) {x : κ} (hM : M x = none) : KV ek va ok (delM M x) es c kv := by
  have e : delM M x = M := by
    funext y
    unfold delM
    split
    · rename_i h; rw [h, hM]
    · rfl
  rw [e]; exact h
variable {P : Program} {N : Nat} {Q : Exit → Act → World → Prop} {f : Fr} {ds : List Deferred} {w w' : World} {o : Oper} {ops : Array Oper} {L : List Item} {K : Act → World → Prop} {M : κ → Option α}
theorem s_delete {κ α : Type} [DecidableEq κ] {ek : κ → Value} {va : α → Value} {ok : κ → Prop} {M : κ → Option α} {t k e : TypeId} {m y : Operand} {g : Nat} {x : κ} (T : MapTy P t k e ek ok) (H : S w L) (k0 : Nat) (hw : Wt ops f o) (hd : o.dst = none) (hk : L[k0]? = some (Mp ek va ok g M))
    (ho : o.op = .call { callee := .builtin .delete, args := #[m, y], argTypes := #[t, k] }) (hm : evo f m = some (.map (some g))) (hy : evo f y = some (ek x)) (hx : ok x)
    (h : ∀ w', S w' (L.set k0 (Mp ek va ok g (delM M x))) → G N K f ds w') : G N (StepK P ops Q o K) f ds w := by
  obtain ⟨es, c, kv, hb, hkv⟩ := H.mp hk
  obtain ⟨l, hl⟩ := T.key x hx
  have hrun : ∃ es' kv', (∀ ty, (Builtin.delete_ #[t, k] ty #[.map (some g), ek x]).run P w = .ok (.tuple #[]) (setBlock w g (.map es' c))) ∧ KV ek va ok (delM M x) es' c kv' := by
    rcases hkv.find T w hx with ⟨h1, h2⟩ | ⟨j, b, h1, h2, h3, q, hq, hqk⟩
    · refine ⟨es, kv, fun ty => ?_, hkv.delNone h1⟩
      simp [Builtin.delete_, run_underlying T.ht, MapKept.run_getObj_map hb, T.K.check w _ hl, h2, MapKept.run_setObj_map _ hb, Result.andThen, setBlock]
    · refine ⟨_, _, fun ty => ?_, hkv.del h2⟩
      simp [Builtin.delete_, run_underlying T.ht, MapKept.run_getObj_map hb, T.K.check w _ hl, h3, MapKept.run_setObj_map _ hb, Result.andThen, setBlock]
  obtain ⟨es', kv', hrun, hkv'⟩ := hrun
  refine s_val0 hw hd (x_builtin (vs := [.map (some g), ek x]) (v := .tuple #[]) (w' := setBlock w g (.map es' c)) ho (by simp only [evs, hm, hy]) (fun cs => by simp only [builtin, hrun, Sem.run_bind, Result.andThen_ok, Sem.run_pure])) (h _ ?_)
  exact H.turn hk ((same_setBlock w g _).less fun j hj => hj.2) ⟨es', c, kv', heap_setBlock hb, hkv'⟩ (fun j hj => by
    have : j = g := hj
    exact ⟨.inl this, Nat.lt_of_lt_of_le (H.lt hk this) (same_setBlock w g _).size⟩)
end
end Go.Proofs.Ytlikhpfdncidkaa
