import Derived.Test.YthfglkkjkpdkpaaGl
import Derived.Lib.AppendZeros
set_option linter.unusedSimpArgs false
set_option linter.unusedVariables false
namespace Go.Proofs.Ythfglkkjkpdkpaa
open Go.RowKit

/-! ## append([]T(nil), make([]T, n)...): a row with room, of which nothing is used yet -/
section
variable {P : Program} {N : Nat} {Q : Exit → Act → World → Prop} {f : Fr} {ds : List Deferred} {w w' : World} {o : Oper} {ops : Array Oper} {L : List Item} {K : Act → World → Prop}
theorem s_growNil {d t tn e size bytes n : Nat} {k kn : IntKind} {s x : Operand} {z : Value} (H : S w L) (hw : Wt ops f o) (hd : o.dst = some d) (hN : Nat.blt d N = true)
    (ho : o.op = .call { callee := .builtin .append, args := #[s, x], argTypes := #[t, tn] }) (hs : evo f s = some (.slice none 0 0)) (hx : evo f x = some (.int k (n : Int)))
    (ht : P.underlying t = some (.slice e)) (htn : P.underlying tn = some (.int kn)) (hi : infO P e = some (some z, size, bytes)) (hz : z.cells.size = size) (hsz : 0 < size) (hb0 : 0 < bytes) (h0 : 0 < n) (hb : n * bytes ≤ 140737488355328)
    (h : ∀ g c w', n ≤ c → S w' (Rw e size (some ⟨g, 0, none⟩) 0 c [] :: L) → G N K ((d, .slice (some ⟨g, 0, none⟩) n c) :: f) ds w') : G N (StepK P ops Q o K) f ds w := by
  obtain ⟨i, hi1, hi2, hi3, hi4⟩ := inf_of hi
  have hnb : n ≤ n * bytes := Nat.le_mul_of_pos_right _ hb0
  have hr := Go.Lib.run_append_nil_zeros (P := P) w t tn o.type e i z k kn ht htn hi1 hi2 n h0 (by omega) (by omega) (by rw [hi4]; omega)
  have hc : n ≤ grownCap w n 0 e := grownCap_ge w n 0 e
  have hm : grownCap w n 0 e ≤ maxLen := grownCap_le_maxLen w n 0 e (by unfold maxLen; omega)
  have H2 : S w.drew L := H.move ⟨rfl, rfl, rfl, Nat.le_refl _, fun _ _ => rfl⟩
  have H3 := H2.alloc (.cells (Builtin.zeroCells z.cells n ++ Builtin.zeroCells z.cells (grownCap w n 0 e - n)) e)
  have hS : S (w.drew.alloc (.cells (Builtin.zeroCells z.cells n ++ Builtin.zeroCells z.cells (grownCap w n 0 e - n)) e)) (Rw e size (some ⟨w.heap.size, 0, none⟩) 0 (grownCap w n 0 e) [] :: L) :=
    H3.turn (k := 0) rfl Same.rfl' ⟨by simp, Nat.zero_le _, hm, .inr ⟨w.heap.size, 0, _, rfl, H3.at (k := 0) rfl, by
      rw [Array.size_append, size_zeroCells, size_zeroCells, hz, ← Nat.add_mul, Nat.add_sub_cancel' hc]; omega, fun j u hu => by simp at hu⟩⟩ fun j hj => by
        obtain ⟨q, hq⟩ := hj; cases hq
        exact ⟨.inl rfl, H3.lt (k := 0) rfl rfl⟩
  exact s_val hw hd hN (x_builtin (vs := [.slice none 0 0, .int k (n : Int)]) ho (by simp only [Array.toList, evs, hs, hx]) (fun cs => by
      simp only [builtin, Sem.run_bind, hr, Result.andThen_ok, Sem.run_pure])) (h _ _ _ hc hS)
theorem x_capl {x : Operand} {t e : TypeId} {p : Option Addr} {n c : Nat} (ho : o.op = .call { callee := .builtin .cap, args := #[x], argTypes := #[t] }) (hx : evo f x = some (.slice p n c)) (hu : P.underlying t = some (.slice e)) : Ex P N f ds o w (.int .i64 c) w :=
  x_builtin (vs := [.slice p n c]) ho (by simp only [evs, hx]) (fun cs => by simp [builtin, Builtin.cap_, run_underlying hu, goInt])
end
end Go.Proofs.Ythfglkkjkpdkpaa
