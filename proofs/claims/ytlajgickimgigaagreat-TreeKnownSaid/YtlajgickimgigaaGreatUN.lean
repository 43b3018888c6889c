import Derived.Test.YtlajgickimgigaaGreatUM
set_option linter.unusedSimpArgs false
set_option linter.unusedVariables false
namespace Go.Proofs.YtlajgickimgigaaGreat
open Go.RowKit

/-! ## A run's nodes and uncles make the root -/
def seg (L : List ByteArray) (a m : Nat) : List ByteArray := (List.range m).map (fun j => L.getD (a + j) ⟨#[]⟩)
theorem seg_len (L : List ByteArray) (a m : Nat) : (seg L a m).length = m := by unfold seg; simp
theorem seg_get {L : List ByteArray} {a m j : Nat} (h : j < m) : (seg L a m).getD j ⟨#[]⟩ = L.getD (a + j) ⟨#[]⟩ := by
  unfold seg
  rw [List.getD_eq_getElem?_getD, List.getElem?_map, List.getElem?_range h]; rfl
theorem seg_cut {L : List ByteArray} {a m : Nat} (h : a + m ≤ L.length) : (L.drop a).take m = seg L a m := by
  apply List.ext_getElem?
  intro j
  unfold seg
  rw [List.getElem?_map]
  by_cases hj : j < m
  · rw [List.getElem?_take_of_lt hj, List.getElem?_drop, List.getElem?_range hj, Option.map_some, List.getD_eq_getElem?_getD, List.getElem?_eq_getElem (by omega), Option.getD_some]
  · rw [List.getElem?_eq_none (by rw [List.length_take]; omega), List.getElem?_eq_none (by simpa using hj)]; rfl
theorem upS_get {L : List ByteArray} {j : Nat} (h : j < L.length / 2) : (upS L).getD j ⟨#[]⟩ = pairS (L.getD (2 * j) ⟨#[]⟩) (L.getD (2 * j + 1) ⟨#[]⟩) := by
  rw [← upTo_all]
  unfold upTo
  rw [List.getD_eq_getElem?_getD, List.getElem?_map, List.getElem?_range h]; rfl
theorem upS_seg {L : List ByteArray} {a m : Nat} (h : 2 * a + 2 * m ≤ L.length) : upS (seg L (2 * a) (2 * m)) = seg (upS L) a m := by
  rw [← upTo_all, seg_len, show 2 * m / 2 = m from by omega]
  unfold upTo
  unfold seg
  refine List.map_congr_left fun i hi => ?_
  rw [List.mem_range] at hi
  have e1 : ((List.range (2 * m)).map (fun j => L.getD (2 * a + j) ⟨#[]⟩)).getD (2 * i) ⟨#[]⟩ = L.getD (2 * a + 2 * i) ⟨#[]⟩ := seg_get (by omega)
  have e2 : ((List.range (2 * m)).map (fun j => L.getD (2 * a + j) ⟨#[]⟩)).getD (2 * i + 1) ⟨#[]⟩ = L.getD (2 * a + (2 * i + 1)) ⟨#[]⟩ := seg_get (by omega)
  rw [e1, e2, upS_get (by omega), show 2 * (a + i) = 2 * a + 2 * i from by omega, Nat.add_assoc]
theorem upN_add (a : Nat) : ∀ (b : Nat) (l : List ByteArray), upN (a + b) l = upN a (upN b l)
  | 0, l => rfl
  | b + 1, l => by rw [← Nat.add_assoc]; exact upN_add a b (upS l)
theorem upN_add' (a b : Nat) (l : List ByteArray) : upN (a + b) l = upN b (upN a l) := by rw [Nat.add_comm]; exact upN_add b a l
theorem upN_seg : ∀ (k : Nat) (L : List ByteArray) (q : Nat), 2 ^ k * q + 2 ^ k ≤ L.length → upN k (seg L (2 ^ k * q) (2 ^ k)) = seg (upN k L) q 1
  | 0, L, q, h => by rw [Nat.pow_zero, Nat.one_mul]; rfl
  | k + 1, L, q, h => by
    have e : (2 : Nat) ^ (k + 1) = 2 * 2 ^ k := by rw [Nat.pow_succ]; omega
    rw [e, Nat.mul_assoc] at h ⊢
    rw [upN, upS_seg (by omega), upN]
    exact upN_seg k (upS L) q (by rw [upS_len]; omega)
/-- A node of the tree with pads. -/
def nodeT (l : List ByteArray) (a b : Nat) : ByteArray := (upN a (rowT l.length 0 l)).getD b ⟨#[]⟩
theorem nodeT_S {l : List ByteArray} {a b : Nat} (h1 : 1 ≤ l.length) (hn : l.length ≤ 1099511627776) (ha : a ≤ tallN l.length) (hb : b < 2 ^ (tallN l.length - a)) : nodeT l a b = nodeS a b (lvlS 0 l a) := by
  unfold nodeT nodeS
  rw [level_row hn ha]
  unfold rowP
  split
  · rename_i h
    rw [List.getD_eq_getElem?_getD, List.getElem?_append_left h, ← List.getD_eq_getElem?_getD]
  · rename_i h
    rw [List.getD_eq_getElem?_getD, List.getElem?_append_right (by omega), List.getElem?_replicate, if_pos (by omega)]; rfl
theorem nodeT_up {l : List ByteArray} {a b : Nat} (hn : l.length ≤ 1099511627776) (ha : a < tallN l.length) (hb : b < 2 ^ (tallN l.length - (a + 1))) : nodeT l (a + 1) b = pairS (nodeT l a (2 * b)) (nodeT l a (2 * b + 1)) := by
  unfold nodeT
  have hl := full_row (l := l) (k := a) hn (by omega)
  rw [upN_snoc, upS_get]
  rw [hl, show tallN l.length - a = (tallN l.length - (a + 1)) + 1 from by omega, Nat.pow_succ]; omega
/-- Nodes of a run. -/
def runN (l : List ByteArray) (v i c : Nat) : List ByteArray := (List.range c).map (fun j => nodeS v (i + j) (lvlS 0 l v))
theorem runN_len (l : List ByteArray) (v i c : Nat) : (runN l v i c).length = c := by unfold runN; simp
theorem runN_next (l : List ByteArray) (v i c : Nat) : runN l v i (c + 1) = runN l v i c ++ [nodeS v (i + c) (lvlS 0 l v)] := by unfold runN; simp [List.range_succ]
theorem runN_seg {l : List ByteArray} {v i c : Nat} (h1 : 1 ≤ l.length) (hn : l.length ≤ 1099511627776) (hv : v ≤ tallN l.length) (hi : i + c ≤ 2 ^ (tallN l.length - v)) : runN l v i c = seg (upN v (rowT l.length 0 l)) i c := by
  unfold runN seg
  refine List.map_congr_left fun j hj => ?_
  rw [List.mem_range] at hj
  exact (nodeT_S h1 hn hv (by omega)).symm
theorem runN_digs {l : List ByteArray} (h : digsB l = true) (v i c : Nat) : digsB (runN l v i c) = true := by
  unfold digsB; rw [List.all_eq_true]
  intro s hs
  unfold runN at hs
  obtain ⟨j, _, rfl⟩ := List.mem_map.1 hs
  unfold nodeS
  split
  · rename_i hj; simpa using digs_get (lvlS_digs h v) hj
  · simpa using zeroS_size v
theorem uncTo_digs {l : List ByteArray} (h : digsB l = true) (v i k : Nat) : digsB (uncTo l v i k) = true := by
  unfold digsB; rw [List.all_eq_true]
  intro s hs
  unfold uncTo at hs
  obtain ⟨j, _, rfl⟩ := List.mem_map.1 hs
  unfold nodeS
  split
  · rename_i hj; simpa using digs_get (lvlS_digs h _) hj
  · simpa using zeroS_size _
theorem uncTo_get {l : List ByteArray} {v i k s : Nat} (h : s < k) : (uncTo l v i k).getD s ⟨#[]⟩ = nodeS (v + s) (i / 2 ^ s ^^^ 1) (lvlS 0 l (v + s)) := by
  unfold uncTo
  rw [List.getD_eq_getElem?_getD, List.getElem?_map, List.getElem?_range h]; rfl
theorem sib_cases (i : Nat) : (i % 2 = 0 ∧ i ^^^ 1 = i + 1) ∨ (i % 2 = 1 ∧ i ^^^ 1 = i - 1) := by
  rw [← sib_xor]
  unfold sibN
  split
  · exact .inl ⟨by assumption, rfl⟩
  · exact .inr ⟨by omega, rfl⟩
theorem div_pow_lt {b s t : Nat} (hs : s ≤ t) (h : b < 2 ^ t) : b / 2 ^ s < 2 ^ (t - s) := by
  apply Nat.div_lt_of_lt_mul
  rw [← Nat.pow_add, show s + (t - s) = t from by omega]; exact h
/-- The way from a node up, with its uncles. -/
theorem topS_node {l : List ByteArray} {a b : Nat} (h1 : 1 ≤ l.length) (hn : l.length ≤ 1099511627776) (ha : a ≤ tallN l.length) (hb : b < 2 ^ (tallN l.length - a)) : ∀ s, s ≤ tallN l.length - a → topS b (nodeT l a b) (uncTo l a b (tallN l.length - a)) s = nodeT l (a + s) (b / 2 ^ s)
  | 0, _ => by rw [Nat.pow_zero, Nat.div_one]; rfl
  | s + 1, hs => by
    have ih := topS_node h1 hn ha hb s (by omega)
    have hbs := div_pow_lt (s := s) (by omega) hb
    have hbs1 := div_pow_lt (s := s + 1) (by omega) hb
    have hpow : 2 ^ (tallN l.length - a - s) = 2 * 2 ^ (tallN l.length - a - (s + 1)) := by rw [show tallN l.length - a - s = (tallN l.length - a - (s + 1)) + 1 from by omega, Nat.pow_succ]; omega
    have e2 : b / 2 ^ (s + 1) = b / 2 ^ s / 2 := by rw [Nat.pow_succ, Nat.div_div_eq_div_mul]
    unfold topS
    rw [ih, uncTo_get (by omega), show a + (s + 1) = (a + s) + 1 from by omega, nodeT_up hn (by omega) (by rw [show tallN l.length - (a + s + 1) = tallN l.length - a - (s + 1) from by omega]; exact hbs1), e2]
    rw [e2] at hbs1
    generalize b / 2 ^ s = x at hbs hbs1 ⊢
    rcases sib_cases x with ⟨c1, c2⟩ | ⟨c1, c2⟩
    · rw [if_pos c1, c2, ← nodeT_S h1 hn (by omega) (by rw [show tallN l.length - (a + s) = tallN l.length - a - s from by omega]; omega)]
      rw [show 2 * (x / 2) = x from by omega]
    · rw [if_neg (by omega), c2, ← nodeT_S h1 hn (by omega) (by rw [show tallN l.length - (a + s) = tallN l.length - a - s from by omega]; omega)]
      rw [show 2 * (x / 2) = x - 1 from by omega, show x - 1 + 1 = x from by omega]
theorem root_node {l : List ByteArray} (hc : checkE l = 0) : (rootS l).1 = nodeT l (tallN l.length) 0 := by
  obtain ⟨h1, h2, h3⟩ := check_spec hc
  unfold rootS; rw [if_pos hc]
  exact (top_row h1 (by omega)).symm
/-- A run and its uncles, as they are told. -/
def runS (l : List ByteArray) (v i c : Int) : List ByteArray × List ByteArray × Int :=
  if checkE l = 0 then (if rightB (tallN l.length) v i c = true then (runN l v.toNat i.toNat c.toNat, uncTo l (v.toNat + tallN c.toNat) (i.toNat / c.toNat) (tallN l.length - (v.toNat + tallN c.toNat)), 0) else ([], [], 7)) else ([], [], checkE l)
theorem run_made {l : List ByteArray} {v i c : Nat} (h1 : 1 ≤ l.length) (hn : l.length ≤ 1099511627776) (hc : 2 ^ tallN c = c) (hv : v + tallN c ≤ tallN l.length) (hi : i < 2 ^ (tallN l.length - v)) (hd : i % c = 0) :
    madeS i (runN l v i c) (uncTo l (v + tallN c) (i / c) (tallN l.length - (v + tallN c))) = nodeT l (tallN l.length) 0 := by
  have hcp : 0 < c := by rw [← hc]; exact Nat.two_pow_pos _
  have hi2 : i = c * (i / c) := by have := Nat.div_add_mod i c; omega
  have hpow : 2 ^ (tallN l.length - v) = c * 2 ^ (tallN l.length - v - tallN c) := by
    conv => lhs; rw [show tallN l.length - v = tallN c + (tallN l.length - v - tallN c) from by omega, Nat.pow_add, hc]
  have hq : i / c < 2 ^ (tallN l.length - v - tallN c) := Nat.div_lt_of_lt_mul (by rw [← hpow]; exact hi)
  have hic : i + c ≤ 2 ^ (tallN l.length - v) := by
    rw [hpow]
    calc i + c = c * (i / c + 1) := by rw [Nat.mul_add, Nat.mul_one, ← hi2]
      _ ≤ c * 2 ^ (tallN l.length - v - tallN c) := Nat.mul_le_mul_left _ hq
  have hfl := full_row (l := l) (k := v) hn (by omega)
  have hq2 : i / c < 2 ^ (tallN l.length - (v + tallN c)) := by rw [show tallN l.length - (v + tallN c) = tallN l.length - v - tallN c from by omega]; exact hq
  have ht0 : (upN (tallN c) (runN l v i c)).getD 0 ⟨#[]⟩ = nodeT l (v + tallN c) (i / c) := by
    rw [runN_seg h1 hn (by omega) hic]
    have : seg (upN v (rowT l.length 0 l)) i c = seg (upN v (rowT l.length 0 l)) (2 ^ tallN c * (i / c)) (2 ^ tallN c) := by rw [hc, ← hi2]
    rw [this, upN_seg _ _ _ (by rw [hc, ← hi2, hfl]; exact hic), seg_get (by omega), ← upN_add']
    rfl
  unfold madeS
  rw [runN_len, uncTo_len, hc, ht0, topS_node h1 hn hv hq2 _ (Nat.le_refl _), show v + tallN c + (tallN l.length - (v + tallN c)) = tallN l.length from by omega]
  congr 1
  exact Nat.div_eq_of_lt hq2
theorem run_check {l : List ByteArray} {v i c : Int} (h : (runS l v i c).2.2 = 0) : (rootS l).2 = 0 ∧ chkE (l.length : Int) (rootS l).1 v i (runS l v i c).1 (runS l v i c).2.1 = 0 := by
  have hc : checkE l = 0 := by
    rcases Decidable.em (checkE l = 0) with h1 | h1
    · exact h1
    · unfold runS at h; rw [if_neg h1] at h; exact absurd h h1
  have hr : rightB (tallN l.length) v i c = true := by
    rcases Decidable.em (rightB (tallN l.length) v i c = true) with h1 | h1
    · exact h1
    · unfold runS at h; rw [if_pos hc, if_neg h1] at h; exact absurd h (by decide)
  obtain ⟨h1, h2, h3⟩ := check_spec hc
  have ht := tall_le12 (n := l.length) h2
  have e : runS l v i c = (runN l v.toNat i.toNat c.toNat, uncTo l (v.toNat + tallN c.toNat) (i.toNat / c.toNat) (tallN l.length - (v.toNat + tallN c.toNat)), 0) := by unfold runS; rw [if_pos hc, if_pos hr]
  obtain ⟨o0, r1, _, r3, r4, r5, r6, r7, r8⟩ := right_s ht hr
  obtain ⟨o1, o2, o3, o4⟩ := nodeOk_s o0
  have hrs : (rootS l).1.size = 32 := by
    rw [root_node hc]
    unfold nodeT
    rw [level_row (by omega) (Nat.le_refl _)]
    have hl := lvl_count (l := l) h1 (tallN l.length)
    have := countN_pos l.length (tallN l.length)
    unfold rowP
    rw [List.getD_eq_getElem?_getD, List.getElem?_append_left (by omega), ← List.getD_eq_getElem?_getD]
    exact digs_get (lvlS_digs h3 _) (by omega)
  rw [e]
  refine ⟨by unfold rootS; rw [if_pos hc], ?_⟩
  show chkE _ _ v i (runN l v.toNat i.toNat c.toNat) (uncTo l (v.toNat + tallN c.toNat) (i.toNat / c.toNat) (tallN l.length - (v.toNat + tallN c.toNat))) = 0
  have hcl : ((c.toNat : Nat) : Int) = c := by omega
  have hd := chk_t (n := (l.length : Int)) (root := (rootS l).1) (v := v) (i := i) (l := runN l v.toNat i.toNat c.toNat) (u := uncTo l (v.toNat + tallN c.toNat) (i.toNat / c.toNat) (tallN l.length - (v.toNat + tallN c.toNat))) hrs (runN_digs h3 _ _ _) (uncTo_digs h3 _ _ _) (by omega) (by omega)
    (by rw [runN_len, hcl, Int.toNat_natCast]; exact hr) (by rw [uncTo_len, runN_len, Int.toNat_natCast]; omega)
  have hmod : i.toNat % c.toNat = 0 := by
    have h5 : ((i.toNat % c.toNat : Nat) : Int) = i % c := by rw [Int.natCast_emod, Int.toNat_of_nonneg o3, Int.toNat_of_nonneg (by omega)]
    omega
  have hm := run_made (l := l) (v := v.toNat) (i := i.toNat) (c := c.toNat) h1 (by omega) r5 (by omega) (by omega) hmod
  rw [decide_eq_decide] at hd
  exact hd.2 (by rw [hm, root_node hc])
end Go.Proofs.YtlajgickimgigaaGreat
