import Derived.Test.YtlajgickimgigaaTI
set_option linter.unusedSimpArgs false
set_option linter.unusedVariables false
namespace Go.Proofs.Ytlajgickimgigaa
open Go.RowKit

section
variable {P : Program} {N : Nat} {f : Fr} {ds : List Deferred} {w : World} {ops : Array Oper} {Q : Exit → Act → World → Prop} {K : Act → World → Prop} {o : Oper} {L : List Item}
/-- append to a slice that is only read and has no room: a new block. -/
theorem s_appendFull {d t e size bytes n m c : Nat} {s x : Operand} {z : Value} {xs news : List Value} {p q : Option Addr} (H : S w L) (hw : Wt ops f o) (hd : o.dst = some d) (hN : Nat.blt d N = true)
    (ho : o.op = .call { callee := .builtin .append, args := #[s, x], argTypes := #[t, t] }) (hs : evo f s = some (.slice p n n)) (hx : evo f x = some (.slice q m c)) (hr0 : Reads w p n n size xs) (hn : 0 < n)
    (ht : P.underlying t = some (.slice e)) (hi : infO P e = some (some z, size, bytes)) (hz : z.cells.size = size) (hsz : 0 < size) (hb0 : 0 < bytes) (hr : Reads w q m c size news) (hm : 0 < m) (h1 : news.all (·.oneCell') = true)
    (hb : (n + m) * bytes ≤ 140737488355328)
    (h : ∀ p' c' w', S w' (Rw e size p' (n + m) c' (xs ++ news) :: L) → G N K ((d, .slice p' (n + m) c') :: f) ds w') : G N (StepK P ops Q o K) f ds w := by
  obtain ⟨i, hi1, hi2, hi3, hi4⟩ := inf_of hi
  have h63 : n + m ≤ maxLen := by
    have : n + m ≤ (n + m) * bytes := Nat.le_mul_of_pos_right _ hb0
    unfold maxLen; omega
  obtain ⟨k1, _, k3⟩ := hr0
  obtain ⟨a, rfl, hold⟩ := k3 hn
  obtain ⟨q1, _, q3⟩ := hr
  obtain ⟨ad, rfl, hnews⟩ := q3 hm
  have hlen : (xs ++ news).length = (n + m) * size := by rw [List.length_append, k1, q1, Nat.add_mul]
  obtain ⟨v', w', hr, hown, hg⟩ := run_append_arg_grows (P := P) w t o.type e i z size bytes ht hi1 hi2 hi3 hi4 hz hsz a n n xs k1 hold ad m c news q1 hnews (by omega) h63 hb
  rcases hown.2 with ⟨_, h0⟩ | ⟨g, cap, cur, rfl, hge, hgg, hle, hmx, hcs, htk⟩
  · omega
  · have hS : S w' (Rw e size (some ⟨g, 0, none⟩) (n + m) cap (xs ++ news) :: L) := by
      refine (H.move ⟨hg.os, hg.tape, hg.output, hg.size, fun b hb => hg.block b hb (by simp)⟩).cons ⟨hlen, hle, hmx, .inr ⟨g, 0, cur, rfl, hgg, by omega, fun j u hu => ?_⟩⟩ (fun b hb => ?_) (fun x hx b hb hb' => ?_)
      · rw [Nat.zero_add, ← Array.getElem?_toList]
        rw [← htk, List.getElem?_take] at hu
        split at hu
        · exact hu
        · cases hu
      · obtain ⟨q, hq⟩ := hb; cases hq
        exact (Array.getElem?_eq_some_iff.1 hgg).1
      · obtain ⟨q, hq⟩ := hb; cases hq
        have := (H.1 x hx).2 _ hb'
        omega
    exact s_val hw hd hN (x_builtin (vs := [.slice (some a) n n, .slice (some ad) m c]) ho (by simp only [Array.toList, evs, hs, hx]) (fun cs => by
      simp only [builtin, Sem.run_bind, hr, Result.andThen_ok, Sem.run_pure])) (h _ _ w' hS)
end
theorem reads_clip {w : World} {p : Option Addr} {n c : Nat} {xs : List Value} (hr : Reads w p n c 1 xs) (hn : 0 < n) : Reads w (if n = 0 then p else p.map fun q => q.add (0 * 1)) n n 1 xs := by
  obtain ⟨k1, k2, k3⟩ := hr
  obtain ⟨a, rfl, hc⟩ := k3 hn
  rw [if_neg (by omega)]
  refine ⟨k1, Nat.le_refl _, fun _ => ⟨a.add (0 * 1), rfl, fun j u hu => ?_⟩⟩
  rw [addr_add, show 0 * 1 + j = j from by omega]
  exact hc j u hu
/-! ## The levels that count -/
def padL (k : Nat) (l : List ByteArray) : List ByteArray := if l.length % 2 = 1 then l ++ [zeroS k] else l
def nextS (k : Nat) (l : List ByteArray) : List ByteArray := upS (padL k l)
def lvlS (k : Nat) (l : List ByteArray) : Nat → List ByteArray
  | 0 => l
  | j + 1 => nextS (k + j) (lvlS k l j)
theorem padL_even (k : Nat) (l : List ByteArray) : ∃ q, (padL k l).length = 2 * q := by
  unfold padL
  split
  · exact ⟨(l.length + 1) / 2, by rw [List.length_append, List.length_singleton]; omega⟩
  · exact ⟨l.length / 2, by omega⟩
theorem padL_le (k : Nat) (l : List ByteArray) : (padL k l).length ≤ l.length + 1 := by
  unfold padL
  split
  · simp
  · omega
theorem nextS_len (k : Nat) (l : List ByteArray) : (nextS k l).length = (padL k l).length / 2 := upS_len _
theorem nextS_le (k : Nat) (l : List ByteArray) : (nextS k l).length ≤ l.length := by
  rw [nextS_len]
  unfold padL
  split
  · rw [List.length_append, List.length_singleton]; omega
  · omega
theorem padL_size {k : Nat} {l : List ByteArray} {B : Nat} (hB : 32 ≤ B) (h : ∀ s ∈ l, s.size ≤ B) : ∀ s ∈ padL k l, s.size ≤ B := by
  intro s hs
  unfold padL at hs
  split at hs
  · rcases List.mem_append.1 hs with hs | hs
    · exact h s hs
    · rw [List.mem_singleton] at hs; subst hs; rw [zeroS_size]; exact hB
  · exact h s hs
theorem lvlS_size {k : Nat} {l : List ByteArray} {B : Nat} (hB : 32 ≤ B) (h : ∀ s ∈ l, s.size ≤ B) : ∀ j, ∀ s ∈ lvlS k l j, s.size ≤ B
  | 0 => h
  | j + 1 => fun s hs => by rw [upS_size s hs]; exact hB
theorem lvlS_le (k : Nat) (l : List ByteArray) : ∀ j, (lvlS k l j).length ≤ l.length
  | 0 => Nat.le_refl _
  | j + 1 => Nat.le_trans (nextS_le _ _) (lvlS_le k l j)
theorem getD_size {l : List ByteArray} {B i : Nat} (h : ∀ s ∈ l, s.size ≤ B) (hi : i < l.length) : (l.getD i ⟨#[]⟩).size ≤ B := by
  rw [List.getD_eq_getElem?_getD, List.getElem?_eq_getElem hi]; exact h _ (List.getElem_mem hi)
theorem S.nilBig {w : World} {L : List Item} (h : S w L) : S w (Big [] :: L) := h.cons (S.nil w) (fun g hg => by obtain ⟨_, h, _⟩ := hg; cases h) (fun _ _ g hg => by obtain ⟨_, h, _⟩ := hg; cases h)
end Go.Proofs.Ytlajgickimgigaa
