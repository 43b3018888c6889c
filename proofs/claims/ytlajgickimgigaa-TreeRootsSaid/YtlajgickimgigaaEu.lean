import Derived.Test.YtlajgickimgigaaEk
import Derived.Deep.Upon
set_option linter.unusedSimpArgs false
set_option linter.unusedVariables false
namespace Go.Proofs.Ytlajgickimgigaa
open Go.RowKit Go.Deep

/-! ## append of what reads somewhere, also of nothing -/
section
variable {P : Program} {N : Nat} {Q : Exit → Act → World → Prop} {f : Fr} {ds : List Deferred} {w w' : World} {o : Oper} {ops : Array Oper} {L : List Item} {K : Act → World → Prop}
/-- A block of one's own is a row. -/
theorem S.obRw {k g e size n : Nat} {cs : Array Value} (h : S w L) (hk : L[k]? = some (Ob g (.cells cs e (0, 0)))) (hn : cs.size = n * size) (hm : n ≤ maxLen) : S w (L.set k (Rw e size (some ⟨g, 0, none⟩) n n cs.toList)) :=
  h.turn hk Same.rfl' ⟨by simpa using hn, Nat.le_refl _, hm, .inr ⟨g, 0, cs, rfl, h.ob hk, by omega, fun j u hu => by rw [Nat.zero_add]; simpa using hu⟩⟩ (fun b hb => by
    obtain ⟨x, hx⟩ := hb
    cases hx
    exact ⟨.inl rfl, (Array.getElem?_eq_some_iff.1 (h.ob hk)).1⟩)
theorem list_set_self {α : Type} : ∀ {l : List α} {k : Nat} {x : α}, l[k]? = some x → l.set k x = l
  | [], _, _, h => by simp at h
  | a :: l, 0, x, h => by simp at h; simp [h]
  | a :: l, k + 1, x, h => by
    have h : l[k]? = some x := by simpa using h
    simp [list_set_self h]
theorem s_appendW {d t e size bytes n m c sc : Nat} {s x : Operand} {z : Value} {xs news : List Value} {p q : Option Addr} (H : S w L) (k : Nat) (hw : Wt ops f o) (hd : o.dst = some d) (hN : Nat.blt d N = true)
    (ho : o.op = .call { callee := .builtin .append, args := #[s, x], argTypes := #[t, t] }) (hs : evo f s = some (.slice p n sc)) (hx : evo f x = some (.slice q m c)) (hk : L[k]? = some (Rw e size p n sc xs))
    (ht : P.underlying t = some (.slice e)) (hi : infO P e = some (some z, size, bytes)) (hz : z.cells.size = size) (hsz : 0 < size) (hb0 : 0 < bytes) (hr : Reads w q m c size news) (h1 : news.all (·.oneCell') = true)
    (hb : (n + m) * bytes ≤ 140737488355328)
    (h : ∀ p' c' w', S w' (L.set k (Rw e size p' (n + m) c' (xs ++ news))) → G N K ((d, .slice p' (n + m) c') :: f) ds w') : G N (StepK P ops Q o K) f ds w := by
  by_cases hm : 0 < m
  · obtain ⟨k1, k2, k3⟩ := hr
    obtain ⟨ad, rfl, hc⟩ := k3 hm
    exact s_appendR H k hw hd hN ho hs hx hk ht hi hz hsz hb0 k1 hm hc h1 hb h
  · obtain rfl : m = 0 := by omega
    obtain ⟨k1, k2, k3⟩ := hr
    have hn0 : news = [] := List.eq_nil_of_length_eq_zero (by rw [k1, Nat.zero_mul])
    subst hn0
    obtain ⟨i, hi1, hi2, hi3, hi4⟩ := inf_of hi
    obtain ⟨r1, r2, r3, r4⟩ := H.rw hk
    have hrun : (Builtin.append_ #[t, t] o.type #[.slice p n sc, .slice q 0 c]).run P w = .ok (.slice p n sc) w := by
      cases p <;> cases q <;> simp [Builtin.append_, run_underlying ht, sizeOf, typeInfo, hi1, Builtin.lenOf, Builtin.firstCells, loadCells, loadCellsFrom, storeCells, r2]
    have hS : S w (L.set k (Rw e size p (n + 0) sc (xs ++ []))) := by
      rw [Nat.add_zero, List.append_nil, list_set_self hk]; exact H
    exact s_val hw hd hN (x_builtin (vs := [.slice p n sc, .slice q 0 c]) ho (by simp only [Array.toList, evs, hs, hx]) (fun cs => by
      simp only [builtin, Sem.run_bind, hrun, Result.andThen_ok, Sem.run_pure, Nat.add_zero])) (h p sc w hS)
/-- An empty composite literal of a slice: a new block without cells. -/
theorem s_buildSlice0 {d t e size : Nat} (H : S w L) (hw : Wt ops f o) (hd : o.dst = some d) (hN : Nat.blt d N = true) (ho : o.op = .buildSlice t 0 #[])
    (hu : P.underlying t = some (.slice e)) (hz : szO P e = some size)
    (h : ∀ g w', S w' (Ob g (.cells #[] e (0, 0)) :: L) → G N K ((d, .slice (some ⟨g, 0, none⟩) 0 0) :: f) ds w') : G N (StepK P ops Q o K) f ds w :=
  s_new (v := fun g => .slice (some ⟨g, 0, none⟩) 0 0) H hw hd hN (fun a ha => by
    unfold execOp
    have h2 : ¬ (0 * size > 2 ^ 24) := by omega
    have h3 : 0 * size = 0 := by omega
    simp only [ho, Instr.buildSlice, Sem.run_bind, run_underlying hu, Result.andThen_ok, run_sz hz, if_neg h2, if_pos h3, Sem.run_pure]
    rw [h3]
    simp [Instr.fill, newRow, newObj, go_sem]
    rfl) h
end
end Go.Proofs.Ytlajgickimgigaa
