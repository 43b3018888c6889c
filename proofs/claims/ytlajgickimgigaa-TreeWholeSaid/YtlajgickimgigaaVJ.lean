import Derived.Test.YtlajgickimgigaaVI
import Derived.Test.YtlajgickimgigaaFg
set_option linter.unusedSimpArgs false
set_option linter.unusedVariables false
namespace Go.Proofs.Ytlajgickimgigaa
open Go.RowKit

/-! ## What is known behind runs of one node -/
theorem pathM_get (M0 : PM) (a b : Nat) (t0 : ByteArray) (u : List ByteArray) : ∀ s x y, pathM M0 a b t0 u s (x, y) =
    if a < x ∧ x ≤ a + s ∧ y = b / 2 ^ (x - a) then some (topS b t0 u (x - a)) else if a ≤ x ∧ x < a + s ∧ y = b / 2 ^ (x - a) ^^^ 1 then some (u.getD (x - a) ⟨#[]⟩) else M0 (x, y)
  | 0, x, y => by rw [if_neg (by omega), if_neg (by omega)]; rfl
  | s + 1, x, y => by
    show upM (upM (pathM M0 a b t0 u s) (a + s, b / 2 ^ s ^^^ 1) (u.getD s ⟨#[]⟩)) (a + s + 1, b / 2 ^ (s + 1)) (topS b t0 u (s + 1)) (x, y) = _
    unfold upM
    by_cases h1 : (x, y) = (a + s + 1, b / 2 ^ (s + 1))
    · rw [if_pos h1]
      simp only [Prod.mk.injEq] at h1
      have e : x - a = s + 1 := by omega
      rw [e, if_pos ⟨by omega, by omega, h1.2⟩]
    · rw [if_neg h1]
      simp only [Prod.mk.injEq] at h1
      by_cases h2 : (x, y) = (a + s, b / 2 ^ s ^^^ 1)
      · rw [if_pos h2]
        simp only [Prod.mk.injEq] at h2
        have e : x - a = s := by omega
        rw [e, if_neg (fun h => by
          have h3 := h.2.2
          rw [h2.2] at h3
          rcases sib_cases (b / 2 ^ s) with ⟨_, c⟩ | ⟨_, c⟩ <;> omega), if_pos ⟨by omega, by omega, h2.2⟩]
      · rw [if_neg h2, pathM_get M0 a b t0 u s x y]
        simp only [Prod.mk.injEq] at h2
        by_cases c1 : a < x ∧ x ≤ a + s ∧ y = b / 2 ^ (x - a)
        · rw [if_pos c1, if_pos ⟨c1.1, by omega, c1.2.2⟩]
        · have d1 : ¬ (a < x ∧ x ≤ a + (s + 1) ∧ y = b / 2 ^ (x - a)) := fun h => by
            by_cases e : x = a + s + 1
            · exact h1 ⟨e, by rw [show x - a = s + 1 from by omega] at h; exact h.2.2⟩
            · exact c1 ⟨h.1, by omega, h.2.2⟩
          rw [if_neg c1, if_neg d1]
          by_cases c2 : a ≤ x ∧ x < a + s ∧ y = b / 2 ^ (x - a) ^^^ 1
          · have d2 : a ≤ x ∧ x < a + (s + 1) ∧ y = b / 2 ^ (x - a) ^^^ 1 := ⟨c2.1, by omega, c2.2.2⟩
            rw [if_pos c2, if_pos d2]
          · have d2 : ¬ (a ≤ x ∧ x < a + (s + 1) ∧ y = b / 2 ^ (x - a) ^^^ 1) := fun h => by
              by_cases e : x = a + s
              · exact h2 ⟨e, by rw [show x - a = s from by omega] at h; exact h.2.2⟩
              · exact c2 ⟨h.1, by omega, h.2.2⟩
            rw [if_neg c2, if_neg d2]
theorem tall_one : tallN 1 = 0 := tallN_of (by omega) (by decide) (fun j hj => by omega)
theorem one_get (v i : Nat) (t0 : ByteArray) (u : List ByteArray) (x y : Nat) : provM v i [t0] u (x, y) =
    if v < x ∧ x ≤ v + u.length ∧ y = i / 2 ^ (x - v) then some (topS i t0 u (x - v)) else if v ≤ x ∧ x < v + u.length ∧ y = i / 2 ^ (x - v) ^^^ 1 then some (u.getD (x - v) ⟨#[]⟩) else if x = v ∧ y = i then some t0 else none := by
  unfold provM
  rw [show [t0].length = 1 from rfl, tall_one, pathM_get, Nat.pow_zero, Nat.div_one]
  simp only [Nat.add_zero]
  have e : lowM v i [t0] (0 + 1) (x, y) = if x = v ∧ y = i then some t0 else none := by
    show upM (fun _ => none) (v + 0, i / 2 ^ 0 + 0) t0 (x, y) = _
    unfold upM
    rw [Nat.pow_zero, Nat.div_one, Nat.add_zero, Nat.add_zero]
    by_cases h : x = v ∧ y = i
    · rw [if_pos (by rw [h.1, h.2]), if_pos h]
    · rw [if_neg (fun h1 => h (by simpa using h1)), if_neg h]
  rw [e]; rfl
/-- What is known is right. -/
def Right (l : List ByteArray) (M : PM) : Prop := ∀ x y s, x ≤ tallN l.length → y < 2 ^ (tallN l.length - x) → M (x, y) = some s → s = nodeT l x y
theorem right_new {l : List ByteArray} (hc : checkE l = 0) : Right l (newT (tallN l.length) (rootS l).1) := fun x y s hx hy hs => by
  unfold newT upM at hs
  split at hs
  · rename_i h
    simp only [Prod.mk.injEq] at h
    rw [h.1, h.2, ← root_node hc]
    exact (Option.some.inj hs).symm
  · cases hs
theorem right_one {l : List ByteArray} {v i : Nat} (h1 : 1 ≤ l.length) (hn : l.length ≤ 1099511627776) (hv : v ≤ tallN l.length) (hi : i < 2 ^ (tallN l.length - v)) : Right l (provM v i [nodeT l v i] (uncTo l v i (tallN l.length - v))) := fun x y s hx hy hs => by
  rw [one_get, uncTo_len] at hs
  split at hs
  · rename_i h
    rw [← Option.some.inj hs, topS_node h1 hn hv hi _ (by omega), ← h.2.2, show v + (x - v) = x from by omega]
  · split at hs
    · rename_i h
      rw [← Option.some.inj hs, uncTo_get (by omega), ← h.2.2, show v + (x - v) = x from by omega, nodeT_S h1 hn hx hy]
    · split at hs
      · rename_i h
        rw [← Option.some.inj hs, h.1, h.2]
      · cases hs
theorem right_or {l : List ByteArray} {N M : PM} (hN : Right l N) (hM : Right l M) : Right l (orM N M) := fun x y s hx hy hs => by
  unfold orM at hs
  cases h : N (x, y) with
  | none => rw [h] at hs; exact hM x y s hx hy hs
  | some a => rw [h] at hs; rw [← Option.some.inj hs]; exact hN x y a hx hy h
theorem or_keep {N M : PM} {p : Nat × Nat} (h : (M p).isSome = true) : (orM N M p).isSome = true := by
  unfold orM
  cases N p with
  | none => exact h
  | some a => rfl
theorem or_new {N M : PM} {p : Nat × Nat} (h : (N p).isSome = true) : (orM N M p).isSome = true := by
  unfold orM
  cases hN : N p with
  | none => rw [hN] at h; cases h
  | some a => rfl
theorem one_path {v i s : Nat} {t0 : ByteArray} {u : List ByteArray} (hs : s ≤ u.length) : (provM v i [t0] u (v + s, i / 2 ^ s)).isSome = true := by
  rw [one_get]
  rcases Nat.eq_zero_or_pos s with h | h
  · subst h
    rw [if_neg (by omega)]
    split
    · rfl
    · rw [if_pos ⟨rfl, by rw [Nat.pow_zero, Nat.div_one]⟩]; rfl
  · rw [if_pos ⟨by omega, by omega, by rw [show v + s - v = s from by omega]⟩]; rfl
/-- A run of one node. -/
theorem run_one {l : List ByteArray} {v i : Nat} (hc : checkE l = 0) (hv : v ≤ tallN l.length) (hi : i < 2 ^ (tallN l.length - v)) : runS l (v : Int) (i : Int) 1 = ([nodeT l v i], uncTo l v i (tallN l.length - v), 0) := by
  obtain ⟨h1, h2, h3⟩ := check_spec hc
  have ht := tall_le12 (n := l.length) h2
  have hr : rightB (tallN l.length) (v : Int) (i : Int) 1 = true := right_t ht (nodeOk_t (by omega) (by omega) (by omega) (by rw [Int.toNat_natCast]; omega)) (by omega) (by decide) (by rw [Int.toNat_natCast]; have := Nat.two_pow_pos (tallN l.length - v); omega) (Int.emod_one _)
  have := runS_ok (l := l) (V0 := v) (I0 := i) (C0 := 1) hc hr
  rw [show ((1 : Nat) : Int) = 1 from rfl, tall_one, Nat.add_zero, Nat.div_one] at this
  rw [this]
  show ((List.range 1).map _, _, _) = _
  simp only [List.range_one, List.map_cons, List.map_nil, Nat.add_zero]
  rw [nodeT_S h1 (by omega) hv hi]
theorem add_one {l : List ByteArray} {v i : Nat} (hc : checkE l = 0) (hv : v ≤ tallN l.length) (hi : i < 2 ^ (tallN l.length - v)) : addE (tallN l.length) (rootS l).1 (v : Int) (i : Int) [nodeT l v i] (uncTo l v i (tallN l.length - v)) = 0 := by
  obtain ⟨h1, h2, h3⟩ := check_spec hc
  have e := run_one hc hv hi
  obtain ⟨_, h5⟩ := run_check (l := l) (v := (v : Int)) (i := (i : Int)) (c := 1) (by rw [e])
  rw [e] at h5
  have h6 : digsB [nodeT l v i] = true ∧ digsB (uncTo l v i (tallN l.length - v)) = true := by
    have a1 := runN_digs h3 v i 1
    have a2 : runN l v i 1 = [nodeT l v i] := by
      show (List.range 1).map _ = _
      simp only [List.range_one, List.map_cons, List.map_nil, Nat.add_zero]
      rw [nodeT_S h1 (by omega) hv hi]
    rw [a2] at a1
    exact ⟨a1, uncTo_digs h3 _ _ _⟩
  unfold addE
  rw [if_pos h6]
  unfold chkE at h5
  rw [if_pos ⟨h6.1, h6.2, root_size hc⟩, if_pos (by omega), Int.toNat_natCast] at h5
  exact h5
theorem div_div_pow (i v s : Nat) : i * 2 ^ s / 2 ^ s = i := Nat.mul_div_cancel _ (Nat.two_pow_pos s)
theorem count_up {n v s j : Nat} (hj : j < countN n (v + s)) : j * 2 ^ s < countN n v := by
  unfold countN at *
  have h1 : j ≤ (n - 1) / 2 ^ (v + s) := by omega
  have h2 : j * 2 ^ (v + s) ≤ n - 1 := by
    have := Nat.div_mul_le_self (n - 1) (2 ^ (v + s))
    exact Nat.le_trans (Nat.mul_le_mul_right _ h1) this
  have h3 : j * 2 ^ s ≤ (n - 1) / 2 ^ v := by
    rw [Nat.le_div_iff_mul_le (Nat.two_pow_pos v)]
    rw [Nat.mul_assoc, ← Nat.pow_add, Nat.add_comm s v]; exact h2
  omega
/-- When no run is left, all that counts is known. -/
theorem all_known {l : List ByteArray} {v : Nat} {M : PM} (hc : checkE l = 0) (hR : Right l M) (hK : ∀ i, i < countN l.length v → ∀ s, s ≤ tallN l.length - v → (M (v + s, i / 2 ^ s)).isSome = true) {a b : Nat} (hv : v ≤ a) (ha : a ≤ tallN l.length) (hb : b < countN l.length a) :
    M (a, b) = some ((lvlS 0 l a).getD b ⟨#[]⟩) := by
  obtain ⟨h1, h2, h3⟩ := check_spec hc
  have hcl := count_le (n := l.length) (v := a) h1 (by omega) ha
  have h4 := hK (b * 2 ^ (a - v)) (count_up (s := a - v) (by rw [show v + (a - v) = a from by omega]; exact hb)) (a - v) (by omega)
  rw [div_div_pow b v, show v + (a - v) = a from by omega] at h4
  cases hM : M (a, b) with
  | none => rw [hM] at h4; cases h4
  | some s =>
    rw [hR a b s ha (by omega) hM, nodeT_S h1 (by omega) ha (by omega)]
    unfold nodeS
    rw [if_pos (by rw [lvl_count h1]; exact hb)]
theorem known_all {l : List ByteArray} {M : PM} {a : Nat} (ha : a ≤ tallN l.length) (h : ∀ b, b < countN l.length a → (M (a, b)).isSome = true) : knownT l.length (tallN l.length) M (a : Int) = ((countN l.length a : Int), 0) := by
  unfold knownT
  rw [if_pos (by omega), Int.toNat_natCast]
  have : missTo M a (countN l.length a) = [] := by
    unfold missTo
    rw [List.filter_eq_nil_iff]
    intro b hb
    rw [List.mem_range] at hb
    rw [h b hb]; decide
  rw [this]; simp
theorem get_all {l : List ByteArray} {M : PM} {a b : Nat} {s : ByteArray} (hc : checkE l = 0) (ha : a ≤ tallN l.length) (hb : b < countN l.length a) (h : M (a, b) = some s) : getG l.length (tallN l.length) M (a : Int) (b : Int) = (s, 0) := by
  obtain ⟨h1, h2, h3⟩ := check_spec hc
  have hcl := count_le (n := l.length) (v := a) h1 (by omega) ha
  have e : getT l.length M a b = some s := by unfold getT; rw [if_neg (by omega)]; exact h
  unfold getG
  simp only [Int.toNat_natCast]
  rw [if_pos (nodeOk_t (by omega) (by omega) (by omega) (by rw [Int.toNat_natCast]; omega)), e]; rfl
theorem erase_mem {lf : List Nat} {at_ i : Nat} (h : i ∉ lf.eraseIdx at_) (hl : at_ < lf.length) : i ∉ lf ∨ i = lf.getD at_ 0 := by
  by_cases hi : i ∈ lf
  · right
    rw [List.mem_eraseIdx_iff_getElem?] at h
    obtain ⟨j, hj⟩ := List.getElem?_of_mem hi
    by_cases e : j = at_
    · subst e
      rw [List.getD_eq_getElem?_getD, hj]; rfl
    · exact absurd ⟨j, e, hj⟩ h
  · exact .inl hi
theorem intV_at {l : List Nat} {j : Nat} (h : j < l.length) : (intV l)[j * 1]? = some (.int .i64 ((l.getD j 0 : Nat) : Int)) := by
  unfold intV; rw [Nat.mul_one, List.getElem?_map, List.getD_eq_getElem?_getD, List.getElem?_eq_getElem h]; rfl
theorem intV_one (l : List Nat) : (intV l).all (·.oneCell') = true := by
  unfold intV; rw [List.all_eq_true]; intro v hv
  obtain ⟨x, _, rfl⟩ := List.mem_map.1 hv; rfl
theorem intV_cut (l : List Nat) (a : Nat) : (intV l).take (a * 1) ++ ((intV l).drop ((a + 1) * 1)).take ((l.length - (a + 1)) * 1) = intV (l.eraseIdx a) := by
  rw [List.eraseIdx_eq_take_drop_succ]
  unfold intV
  rw [List.map_append, List.map_take, List.map_drop, Nat.mul_one, Nat.mul_one, Nat.mul_one]
  congr 1
  rw [List.take_of_length_le (by simp)]
theorem getD_mem {lf : List Nat} {a : Nat} (h : a < lf.length) : lf.getD a 0 ∈ lf := by
  rw [List.getD_eq_getElem?_getD, List.getElem?_eq_getElem h]; exact List.getElem_mem h
end Go.Proofs.Ytlajgickimgigaa
