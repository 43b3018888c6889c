import Derived.Test.YtlikhpfdncidkaaFf
set_option linter.unusedSimpArgs false
set_option linter.unusedVariables false
namespace Go.Proofs.Ytlikhpfdncidkaa
open Go.RowKit

section
variable {P : Program} {N : Nat} {f : Fr} {ds : List Deferred} {w : World} {ops : Array Oper} {Q : Exit → Act → World → Prop} {K : Act → World → Prop} {o : Oper} {L : List Item}
/-- append to a slice without room, which may be empty: a new block. -/
theorem s_appendFull2 {d t e size bytes n m c : Nat} {s x : Operand} {z : Value} {xs news : List Value} {p q : Option Addr} (H : S w L) (hw : Wt ops f o) (hd : o.dst = some d) (hN : Nat.blt d N = true)
    (ho : o.op = .call { callee := .builtin .append, args := #[s, x], argTypes := #[t, t] }) (hs : evo f s = some (.slice p n n)) (hx : evo f x = some (.slice q m c)) (hr0 : Reads w p n n size xs) (hp : ∃ a, p = some a)
    (ht : P.underlying t = some (.slice e)) (hi : infO P e = some (some z, size, bytes)) (hz : z.cells.size = size) (hsz : 0 < size) (hb0 : 0 < bytes) (hr : Reads w q m c size news) (hm : 0 < m) (h1 : news.all (·.oneCell') = true)
    (hb : (n + m) * bytes ≤ 140737488355328)
    (h : ∀ p' c' w', S w' (Rw e size p' (n + m) c' (xs ++ news) :: L) → G N K ((d, .slice p' (n + m) c') :: f) ds w') : G N (StepK P ops Q o K) f ds w := by
  obtain ⟨i, hi1, hi2, hi3, hi4⟩ := inf_of hi
  have h63 : n + m ≤ maxLen := by
    have : n + m ≤ (n + m) * bytes := Nat.le_mul_of_pos_right _ hb0
    unfold maxLen; omega
  obtain ⟨k1, _, k3⟩ := hr0
  obtain ⟨a, rfl⟩ := hp
  have hold : ∀ j u, xs[j]? = some u → w.cell? (a.add j) = some u := fun j u hu => by
    rcases Nat.eq_zero_or_pos n with h0 | h0
    · subst h0
      have : xs = [] := List.eq_nil_of_length_eq_zero (by rw [k1, Nat.zero_mul])
      rw [this] at hu; simp at hu
    · obtain ⟨a', ha, hc⟩ := k3 h0
      cases ha; exact hc j u hu
  obtain ⟨q1, _, q3⟩ := hr
  obtain ⟨ad, rfl, hnews⟩ := q3 hm
  have hlen : (xs ++ news).length = (n + m) * size := by rw [List.length_append, k1, q1, Nat.add_mul]
  obtain ⟨v', w', hr, hown, hg⟩ := run_append_arg_grows (P := P) w t o.type e i z size bytes ht hi1 hi2 hi3 hi4 hz hsz a n n xs k1 hold ad m c news q1 hnews (by omega) h63 hb
  rcases hown.2 with ⟨_, h0⟩ | ⟨g, cap, cur, rfl, hge, hgg, hle, hmx, hcs, htk⟩
  · omega
  · have hS : S w' (Rw e size (some ⟨g, 0, none⟩) (n + m) cap (xs ++ news) :: L) := by
      refine (H.move ⟨hg.os, hg.tape, hg.output, hg.size, fun b hb => hg.block b hb (by simp)⟩).cons ⟨hlen, hle, hmx, .inr ⟨g, 0, cur, rfl, hgg, by omega, fun j u hu => ?_⟩⟩ (fun b hb => ?_) (fun x hx b hb hb' => ?_)
      · rw [Nat.zero_add, ← Array.getElem?_toList]
        rw [← htk, List.getElem?_take] at hu
        split at hu
        · exact hu
        · cases hu
      · obtain ⟨q, hq⟩ := hb; cases hq
        exact (Array.getElem?_eq_some_iff.1 hgg).1
      · obtain ⟨q, hq⟩ := hb; cases hq
        have := (H.1 x hx).2 _ hb'
        omega
    exact s_val hw hd hN (x_builtin (vs := [.slice (some a) n n, .slice (some ad) m c]) ho (by simp only [Array.toList, evs, hs, hx]) (fun cs => by
      simp only [builtin, Sem.run_bind, hr, Result.andThen_ok, Sem.run_pure])) (h _ _ w' hS)
/-- append of nothing. -/
theorem s_append0 {d t e size bytes n c sc : Nat} {s x : Operand} {z : Value} {p q : Option Addr} (hw : Wt ops f o) (hd : o.dst = some d) (hN : Nat.blt d N = true)
    (ho : o.op = .call { callee := .builtin .append, args := #[s, x], argTypes := #[t, t] }) (hs : evo f s = some (.slice p n sc)) (hx : evo f x = some (.slice q 0 c))
    (ht : P.underlying t = some (.slice e)) (hi : infO P e = some (some z, size, bytes)) (r2 : n ≤ sc)
    (h : G N K ((d, .slice p n sc) :: f) ds w) : G N (StepK P ops Q o K) f ds w := by
  obtain ⟨i, hi1, hi2, hi3, hi4⟩ := inf_of hi
  have hrun : (Builtin.append_ #[t, t] o.type #[.slice p n sc, .slice q 0 c]).run P w = .ok (.slice p n sc) w := by
    cases p <;> cases q <;> simp [Builtin.append_, run_underlying ht, sizeOf, typeInfo, hi1, Builtin.lenOf, Builtin.firstCells, loadCells, loadCellsFrom, storeCells, r2]
  exact s_val hw hd hN (x_builtin (vs := [.slice p n sc, .slice q 0 c]) ho (by simp only [Array.toList, evs, hs, hx]) (fun cs => by
      simp only [builtin, Sem.run_bind, hrun, Result.andThen_ok, Sem.run_pure])) h
end
theorem Reads.take {w : World} {p : Option Addr} {n c size : Nat} {xs : List Value} (hr : Reads w p n c size xs) (k : Nat) (hk : k ≤ n) : Reads w p k c size (xs.take (k * size)) := by
  obtain ⟨k1, k2, k3⟩ := hr
  have hx : k * size ≤ n * size := Nat.mul_le_mul_right _ hk
  refine ⟨by rw [List.length_take, k1]; omega, by omega, fun h0 => ?_⟩
  obtain ⟨a, ha, hc⟩ := k3 (by omega)
  refine ⟨a, ha, fun j u hu => hc j u ?_⟩
  have hj := (List.getElem?_eq_some_iff.1 hu).1
  rw [List.length_take] at hj
  rwa [List.getElem?_take_of_lt (by omega)] at hu
/-- A cut from the front, with its own end as capacity. -/
def clipP (p : Option Addr) (k size : Nat) : Option Addr := if k = 0 then p else p.map fun q => q.add (0 * size)
theorem Reads.clip {w : World} {p : Option Addr} {n c size : Nat} {xs : List Value} (hr : Reads w p n c size xs) (k : Nat) (hk : k ≤ n) : Reads w (clipP p k size) k k size (xs.take (k * size)) := by
  obtain ⟨k1, k2, k3⟩ := hr.take k hk
  refine ⟨k1, Nat.le_refl _, fun h0 => ?_⟩
  obtain ⟨a, rfl, hc⟩ := k3 h0
  refine ⟨a.add (0 * size), by unfold clipP; rw [if_neg (by omega)]; rfl, fun j u hu => ?_⟩
  rw [addr_add, Nat.zero_mul, Nat.zero_add]
  exact hc j u hu
theorem clip_some {w : World} {p : Option Addr} {n c size : Nat} {xs : List Value} (hr : Reads w p n c size xs) (k : Nat) (hn : 0 < n) : ∃ a, clipP p k size = some a := by
  obtain ⟨a, rfl, _⟩ := hr.2.2 hn
  unfold clipP
  split
  · exact ⟨a, rfl⟩
  · exact ⟨_, rfl⟩
end Go.Proofs.Ytlikhpfdncidkaa
