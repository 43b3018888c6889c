import Derived.Test.YtlajgickimgigaaTD
set_option linter.unusedSimpArgs false
set_option linter.unusedVariables false
namespace Go.Proofs.Ytlajgickimgigaa
open Go.RowKit

/-! ## Trees, in plain words -/
def stV (l : List ByteArray) : List Value := l.map Value.string
theorem stV_len (l : List ByteArray) : (stV l).length = l.length := by unfold stV; simp
theorem stV_snoc (l : List ByteArray) (x : ByteArray) : stV (l ++ [x]) = stV l ++ [Value.string x] := by unfold stV; simp
theorem stV_app (l m : List ByteArray) : stV (l ++ m) = stV l ++ stV m := by unfold stV; simp
theorem stV_at {l : List ByteArray} {j : Nat} (h : j < l.length) : (stV l)[j * 1]? = some (.string (l.getD j ⟨#[]⟩)) := by
  unfold stV; rw [Nat.mul_one, List.getElem?_map, List.getD_eq_getElem?_getD, List.getElem?_eq_getElem h]; rfl
theorem stV_one (l : List ByteArray) : (stV l).all (·.oneCell') = true := by
  unfold stV; rw [List.all_eq_true]; intro v hv
  obtain ⟨x, _, rfl⟩ := List.mem_map.1 hv; rfl
def digsB (l : List ByteArray) : Bool := l.all (fun s => decide (s.size = 32))
theorem digs_mem {l : List ByteArray} (h : digsB l = true) {s : ByteArray} (hs : s ∈ l) : s.size = 32 := by
  unfold digsB at h; rw [List.all_eq_true] at h; simpa using h s hs
theorem digs_get {l : List ByteArray} (h : digsB l = true) {i : Nat} (hi : i < l.length) : (l.getD i ⟨#[]⟩).size = 32 := by
  rw [List.getD_eq_getElem?_getD, List.getElem?_eq_getElem hi]; exact digs_mem h (List.getElem_mem hi)
theorem digs_no {l : List ByteArray} {i : Nat} (hi : i < l.length) (h : ¬ (l.getD i ⟨#[]⟩).size = 32) : digsB l = false := by
  cases hd : digsB l with
  | false => rfl
  | true => exact absurd (digs_get hd hi) h
theorem digs_yes {l : List ByteArray} (h : ∀ i, i < l.length → (l.getD i ⟨#[]⟩).size = 32) : digsB l = true := by
  unfold digsB; rw [List.all_eq_true]
  intro s hs
  obtain ⟨i, hi, rfl⟩ := List.getElem_of_mem hs
  have := h i hi
  rw [List.getD_eq_getElem?_getD, List.getElem?_eq_getElem hi] at this
  simpa using this
/-- The height of a tree. -/
def tallN (n : Nat) : Nat := ((List.range 64).find? (fun h => decide (n ≤ 2 ^ h))).getD 0
theorem tallN_of {n h : Nat} (hh : h < 64) (h1 : n ≤ 2 ^ h) (h2 : ∀ j, j < h → 2 ^ j < n) : tallN n = h := by
  have : (List.range 64).find? (fun h => decide (n ≤ 2 ^ h)) = some h := by
    refine List.find?_eq_some_iff_getElem.2 ⟨by simpa using h1, h, by simpa using hh, by simp, fun j hj => ?_⟩
    simp only [List.getElem_range, Bool.not_eq_true', decide_eq_false_iff_not]
    have := h2 j hj; omega
  unfold tallN; rw [this]; rfl
theorem tall_spec {n : Nat} (hn : n ≤ 1099511627776) : n ≤ 2 ^ tallN n ∧ (∀ j, j < tallN n → 2 ^ j < n) ∧ tallN n ≤ 40 := by
  have h40 : n ≤ 2 ^ 40 := hn
  cases hq : (List.range 64).find? (fun h => decide (n ≤ 2 ^ h)) with
  | none =>
    have := List.find?_eq_none.1 hq 40 (by simp)
    simp at this; omega
  | some h =>
    obtain ⟨h1, k, hk, he, h3⟩ := List.find?_eq_some_iff_getElem.1 hq
    have hkh : k = h := by simpa using he
    subst hkh
    have e : tallN n = k := by unfold tallN; rw [hq]; rfl
    rw [e]
    have h1' : n ≤ 2 ^ k := by simpa using h1
    refine ⟨h1', fun j hj => ?_, ?_⟩
    · have := h3 j hj
      simp only [List.getElem_range, Bool.not_eq_true', decide_eq_false_iff_not] at this
      omega
    · rcases Nat.lt_or_ge 40 k with h | h
      · have := h3 40 h
        simp only [List.getElem_range, Bool.not_eq_true', decide_eq_false_iff_not] at this
        omega
      · exact h
def countN (n v : Nat) : Nat := (n - 1) / 2 ^ v + 1
def zeroS : Nat → ByteArray
  | 0 => zeroB
  | v + 1 => pairS (zeroS v) (zeroS v)
theorem zeroS_size : ∀ v, (zeroS v).size = 32
  | 0 => by rw [zeroS]; unfold zeroB; rw [nbS_size]; simp
  | v + 1 => pairS_size _ _
/-- The level above one. -/
def upS : List ByteArray → List ByteArray
  | a :: b :: l => pairS a b :: upS l
  | _ => []
theorem upS_len : ∀ l : List ByteArray, (upS l).length = l.length / 2
  | [] => by simp [upS]
  | [a] => by simp [upS]
  | a :: b :: l => by rw [upS, List.length_cons, upS_len l, List.length_cons, List.length_cons]; omega
/-- Its first k nodes. -/
def upTo (l : List ByteArray) (k : Nat) : List ByteArray := (List.range k).map (fun i => pairS (l.getD (2 * i) ⟨#[]⟩) (l.getD (2 * i + 1) ⟨#[]⟩))
theorem upTo_next (l : List ByteArray) (k : Nat) : upTo l (k + 1) = upTo l k ++ [pairS (l.getD (2 * k) ⟨#[]⟩) (l.getD (2 * k + 1) ⟨#[]⟩)] := by unfold upTo; simp [List.range_succ]
theorem upTo_len (l : List ByteArray) (k : Nat) : (upTo l k).length = k := by unfold upTo; simp
theorem upTo_all : ∀ l : List ByteArray, upTo l (l.length / 2) = upS l
  | [] => by simp [upS, upTo]
  | [a] => by simp [upS, upTo]
  | a :: b :: l => by
    have ih := upTo_all l
    rw [upS, ← ih]
    have e : (a :: b :: l).length / 2 = l.length / 2 + 1 := by rw [List.length_cons, List.length_cons]; omega
    rw [e]
    unfold upTo
    rw [List.range_succ_eq_map, List.map_cons, List.map_map]
    rfl
/-- k levels up. -/
def upN : Nat → List ByteArray → List ByteArray
  | 0, l => l
  | k + 1, l => upN k (upS l)
theorem upS_size {l : List ByteArray} : ∀ s ∈ upS l, s.size = 32 := by
  intro s hs
  rw [← upTo_all] at hs
  unfold upTo at hs
  obtain ⟨i, _, rfl⟩ := List.mem_map.1 hs
  exact pairS_size _ _
theorem upS_digs (l : List ByteArray) : digsB (upS l) = true := by
  unfold digsB; rw [List.all_eq_true]; intro s hs; simpa using upS_size s hs
/-- What FromLayer answers. -/
def rangeT (n level : Int) : Bool := decide (1 ≤ n) && decide (n ≤ 4096) && decide (0 ≤ level) && decide (level ≤ (tallN n.toNat : Int))
def rowT (n v : Nat) (l : List ByteArray) : List ByteArray := l ++ List.replicate (2 ^ (tallN n - v) - l.length) (zeroS v)
def fromS (n level : Int) (l : List ByteArray) : ByteArray × Int :=
  if digsB l = true then
    if rangeT n level = true then
      if (l.length : Int) = (countN n.toNat level.toNat : Int) then ((upN (tallN n.toNat - level.toNat) (rowT n.toNat level.toNat l)).getD 0 ⟨#[]⟩, 0)
      else (⟨#[]⟩, 11)
    else (⟨#[]⟩, 7)
  else (⟨#[]⟩, 1)
end Go.Proofs.Ytlajgickimgigaa
