import Derived.Test.YtlajgickimgigaaTO
set_option linter.unusedSimpArgs false
set_option linter.unusedVariables false
namespace Go.Proofs.Ytlajgickimgigaa
open Go.RowKit

/-! ## The levels that count are the beginnings of the padded rows -/
theorem upS_append : ∀ (m : Nat) (a b : List ByteArray), a.length = 2 * m → upS (a ++ b) = upS a ++ upS b
  | 0, a, b, h => by
    have : a = [] := List.eq_nil_of_length_eq_zero (by omega)
    subst this; simp [upS]
  | m + 1, x :: y :: a, b, h => by
    have h2 : a.length = 2 * m := by simp only [List.length_cons] at h; omega
    rw [List.cons_append, List.cons_append, upS, upS, upS_append m a b h2, List.cons_append]
  | m + 1, [x], b, h => by simp at h; omega
  | m + 1, [], b, h => by simp at h
theorem upS_replicate (z : ByteArray) : ∀ m : Nat, upS (List.replicate (2 * m) z) = List.replicate m (pairS z z)
  | 0 => by simp [upS]
  | m + 1 => by rw [show 2 * (m + 1) = 2 * m + 1 + 1 from by omega, List.replicate_succ, List.replicate_succ, upS, upS_replicate z m, List.replicate_succ]
/-- A row: its beginning, and zeros behind. -/
def rowP (k t : Nat) (l : List ByteArray) : List ByteArray := l ++ List.replicate (2 ^ t - l.length) (zeroS k)
theorem padL_len (k : Nat) (l : List ByteArray) : (padL k l).length = 2 * ((l.length + 1) / 2) := by
  unfold padL
  split
  · rw [List.length_append, List.length_singleton]; omega
  · omega
theorem nextS_len' (k : Nat) (l : List ByteArray) : (nextS k l).length = (l.length + 1) / 2 := by rw [nextS_len, padL_len]; omega
theorem rowP_pad {k t : Nat} {l : List ByteArray} (hl : l.length ≤ 2 ^ (t + 1)) : rowP k (t + 1) l = rowP k (t + 1) (padL k l) := by
  unfold rowP padL
  split
  · rename_i h
    rw [Nat.pow_succ] at hl ⊢
    rw [List.length_append, List.length_singleton, List.append_assoc, show 2 ^ t * 2 - l.length = (2 ^ t * 2 - (l.length + 1)) + 1 from by omega, List.replicate_succ]
    rfl
  · rfl
theorem upS_row {k t : Nat} {l : List ByteArray} (hl : l.length ≤ 2 ^ (t + 1)) : upS (rowP k (t + 1) l) = rowP (k + 1) t (nextS k l) := by
  rw [rowP_pad hl]
  have hp := padL_len k l
  have hn := nextS_len' k l
  unfold rowP
  rw [upS_append _ _ _ hp, show 2 ^ (t + 1) - (padL k l).length = 2 * (2 ^ t - (nextS k l).length) from by rw [hp, hn, Nat.pow_succ]; omega, upS_replicate]
  rfl
theorem nextS_fit {k t : Nat} {l : List ByteArray} (hl : l.length ≤ 2 ^ (t + 1)) : (nextS k l).length ≤ 2 ^ t := by rw [nextS_len']; rw [Nat.pow_succ] at hl; omega
theorem lvlS_shift (k : Nat) (l : List ByteArray) : ∀ j, lvlS k l (j + 1) = lvlS (k + 1) (nextS k l) j
  | 0 => rfl
  | j + 1 => by
    show nextS (k + (j + 1)) (lvlS k l (j + 1)) = nextS (k + 1 + j) (lvlS (k + 1) (nextS k l) j)
    rw [lvlS_shift k l j, show k + (j + 1) = k + 1 + j from by omega]
theorem upN_row : ∀ (j t k : Nat) (l : List ByteArray), l.length ≤ 2 ^ (t + j) → upN j (rowP k (t + j) l) = rowP (k + j) t (lvlS k l j)
  | 0, t, k, l, h => rfl
  | j + 1, t, k, l, h => by
    rw [upN, show t + (j + 1) = (t + j) + 1 from by omega, upS_row (by rw [show t + (j + 1) = (t + j) + 1 from by omega] at h; exact h), upN_row j t (k + 1) (nextS k l) (nextS_fit h), lvlS_shift, show k + 1 + j = k + (j + 1) from by omega]
theorem countN_next {n v : Nat} : countN n (v + 1) = (countN n v + 1) / 2 := by
  unfold countN
  rw [Nat.pow_succ, ← Nat.div_div_eq_div_mul]; omega
theorem lvlS_count {n v : Nat} {l : List ByteArray} (h : l.length = countN n v) : ∀ j, (lvlS v l j).length = countN n (v + j)
  | 0 => h
  | j + 1 => by
    show (nextS (v + j) (lvlS v l j)).length = _
    rw [nextS_len', lvlS_count h j, show v + (j + 1) = (v + j) + 1 from by omega, countN_next]
theorem countN_pos (n v : Nat) : 1 ≤ countN n v := Nat.le_add_left _ _
theorem countN_top {n : Nat} (h1 : 1 ≤ n) (hn : n ≤ 1099511627776) : countN n (tallN n) = 1 := by
  obtain ⟨t1, _, _⟩ := tall_spec hn
  unfold countN
  rw [Nat.div_eq_of_lt (by omega)]
/-- FromLayer: the padded rows and the levels that count make one root. -/
theorem from_plain {n v : Nat} {l : List ByteArray} (h1 : 1 ≤ n) (hn : n ≤ 1099511627776) (hv : v ≤ tallN n) (hl : l.length = countN n v) :
    (upN (tallN n - v) (rowT n v l)).getD 0 ⟨#[]⟩ = (lvlS v l (tallN n - v)).getD 0 ⟨#[]⟩ := by
  have hc := count_le h1 hn hv
  have := upN_row (tallN n - v) 0 v l (by rw [Nat.zero_add]; omega)
  rw [Nat.zero_add] at this
  have e : rowT n v l = rowP v (tallN n - v) l := rfl
  have hlen := lvlS_count hl (tallN n - v)
  have hpos := countN_pos n (v + (tallN n - v))
  rw [e, this]
  unfold rowP
  rw [List.getD_eq_getElem?_getD, List.getD_eq_getElem?_getD, List.getElem?_append_left (by omega)]
end Go.Proofs.Ytlajgickimgigaa
