import Derived.Test.YtdkfkdekiljcoaaRE
set_option linter.unusedSimpArgs false
set_option linter.unusedVariables false
namespace Go.Proofs.Ytdkfkdekiljcoaa
open Go.RowKit

/-! ## The bits of fields -/
theorem bitA_test (s : ByteArray) (i : Nat) : bitA s i = (bt' s (i / 8)).testBit (7 - i % 8) := by
  unfold bitA; rw [Nat.testBit_eq_decide_div_mod_eq]
theorem bt_nb {b : List Nat} (h : ∀ x ∈ b, x < 256) (k : Nat) : bt' (nbS b) k = b.getD k 0 := by
  unfold bt' nbS
  simp only [List.getElem?_map, List.getD_eq_getElem?_getD]
  cases hq : b[k]? with
  | none => rfl
  | some x =>
    have := h x (List.mem_of_getElem? hq)
    show (UInt8.ofNat x).toNat = x
    rw [UInt8.toNat_ofNat']; omega
theorem byte_next {v b : Nat} (hb : b ≤ 1) (t : Nat) : ((2 * v % 256 + b) % 256).testBit t = if t = 0 then decide (b = 1) else (decide (t < 8) && v.testBit (t - 1)) := by
  have e : (2 * v % 256 + b) % 256 = (2 * v + b) % 2 ^ 8 := by omega
  rw [e, Nat.testBit_mod_two_pow]
  by_cases ht : t = 0
  · subst ht
    rw [if_pos rfl, Nat.testBit_zero, show (2 * v + b) % 2 = b from by omega]; simp
  · obtain ⟨u, rfl⟩ : ∃ u, t = u + 1 := ⟨t - 1, by omega⟩
    rw [if_neg ht, Nat.testBit_succ, show (2 * v + b) / 2 = v from by omega, Nat.add_sub_cancel]
theorem fldStep_get {l : List Bool} {b : List Nat} {i : Nat} (hi : i / 8 < b.length) (k : Nat) : (fldStep l b i).getD k 0 = if k = i / 8 then (2 * b.getD (i / 8) 0 % 256 + (if l.getD i false = true then 1 else 0)) % 256 else b.getD k 0 := by
  unfold fldStep
  by_cases h : l.getD i false = true
  · simp only [if_pos h]
    rw [getD_set (by rw [List.length_set]; exact hi)]
    by_cases hk : k = i / 8
    · rw [if_pos hk, if_pos hk, getD_set hi, if_pos rfl]
    · rw [if_neg hk, if_neg hk, getD_set hi, if_neg hk]
  · simp only [if_neg h]
    rw [getD_set hi]
    by_cases hk : k = i / 8
    · rw [if_pos hk, if_pos hk]; omega
    · rw [if_neg hk, if_neg hk]
theorem fld_bits (l : List Bool) : ∀ i, i ≤ 8 * longN l.length → ∀ k, k < longN l.length → ∀ t, ((fldAt l i).getD k 0).testBit t = (decide (t < min (i - 8 * k) 8) && l.getD (8 * k + (min (i - 8 * k) 8 - 1 - t)) false)
  | 0, _, k, hk, t => by
    rw [fldAt, getD_rep, Nat.zero_testBit]; simp
  | i + 1, hi, k, hk, t => by
    have ih := fld_bits l i (by omega) k hk
    rw [fldAt, fldStep_get (by rw [fldAt_len]; omega)]
    by_cases hk0 : k = i / 8
    · rw [if_pos hk0, ← hk0, byte_next (by split <;> omega)]
      have hc : min (i + 1 - 8 * k) 8 = min (i - 8 * k) 8 + 1 := by omega
      have hc2 : min (i - 8 * k) 8 = i - 8 * k := by omega
      rw [hc, hc2]
      by_cases ht : t = 0
      · subst ht
        rw [if_pos rfl, show 8 * k + (i - 8 * k + 1 - 1 - 0) = i from by omega, decide_eq_true (by omega : 0 < i - 8 * k + 1)]
        cases l.getD i false <;> rfl
      · rw [if_neg ht, ih (t - 1), hc2, show 8 * k + (i - 8 * k - 1 - (t - 1)) = 8 * k + (i - 8 * k + 1 - 1 - t) from by omega]
        by_cases h2 : t < i - 8 * k + 1
        · rw [decide_eq_true h2, decide_eq_true (by omega : t < 8), decide_eq_true (by omega : t - 1 < i - 8 * k)]; rfl
        · rw [decide_eq_false h2, decide_eq_false (by omega : ¬ t - 1 < i - 8 * k)]; simp
    · rw [if_neg hk0, ih t, show min (i + 1 - 8 * k) 8 = min (i - 8 * k) 8 from by omega]
theorem field_size (l : List Bool) : (fieldS l).size = longN l.length := by unfold fieldS; rw [nbS_size, fldAt_len]
theorem field_bit {l : List Bool} {j : Nat} (hj : j < 8 * longN l.length) : bitA (fieldS l) j = l.getD j false := by
  rw [bitA_test]
  unfold fieldS
  rw [bt_nb (fldAt_lt l _), fld_bits l _ (Nat.le_refl _) (j / 8) (by omega), show min (8 * longN l.length - 8 * (j / 8)) 8 = 8 from by omega, show 8 * (j / 8) + (8 - 1 - (7 - j % 8)) = j from by omega, decide_eq_true (by omega : 7 - j % 8 < 8)]
  rfl
theorem bt_set {s : ByteArray} {i : Nat} (hi : i / 8 < s.size) (k : Nat) : bt' (setB s i) k = if k = i / 8 then bt' s (i / 8) ||| 128 / 2 ^ (i % 8) else bt' s k := by
  unfold setB
  show (((Array.setIfInBounds s.data (i / 8) (UInt8.ofNat (bt' s (i / 8) ||| 128 / 2 ^ (i % 8)))).toList)[k]?.getD 0).toNat = _
  rw [Array.getElem?_toList, Array.getElem?_setIfInBounds]
  have hd : i / 8 < s.data.size := hi
  by_cases hk : k = i / 8
  · rw [if_pos hk.symm, if_pos hd, if_pos hk]
    show (UInt8.ofNat _).toNat = _
    rw [UInt8.toNat_ofNat']; exact Nat.mod_eq_of_lt (set_lt s i)
  · rw [if_neg (fun e => hk e.symm), if_neg hk]
    unfold bt'; rw [Array.getElem?_toList]
theorem pow_shift {r : Nat} (h : r < 8) : 128 / 2 ^ r = 2 ^ (7 - r) := by
  rcases (show r = 0 ∨ r = 1 ∨ r = 2 ∨ r = 3 ∨ r = 4 ∨ r = 5 ∨ r = 6 ∨ r = 7 by omega) with rfl | rfl | rfl | rfl | rfl | rfl | rfl | rfl <;> rfl
theorem set_bit {s : ByteArray} {i j : Nat} (hi : i / 8 < s.size) : bitA (setB s i) j = (decide (j = i) || bitA s j) := by
  rw [bitA_test, bitA_test, bt_set hi]
  by_cases hk : j / 8 = i / 8
  · rw [if_pos hk, hk, Nat.testBit_or, pow_shift (by omega), Nat.testBit_two_pow, Bool.or_comm]
    congr 1
    rw [decide_eq_decide]; omega
  · rw [if_neg hk, decide_eq_false (by omega : ¬ j = i)]; rfl
theorem Vf.field {l : List Bool} {m : Nat} (h : l.length = m) : Vf m (fieldS l) := by
  subst h
  refine ⟨field_size l, fun j h1 h2 => ?_⟩
  rw [field_bit h2, getD_out h1]
theorem Vf.set {m i : Nat} {s : ByteArray} (h : Vf m s) (hi : i < m) : Vf m (setB s i) := by
  refine ⟨by rw [setB_size]; exact h.1, fun j h1 h2 => ?_⟩
  rw [set_bit (by rw [h.1]; unfold longN; omega), decide_eq_false (by omega : ¬ j = i), h.2 j h1 h2]; rfl
theorem Vf.new {n : Int} (h : 0 ≤ n ∧ n ≤ 4096) : Vf n.toNat (newS n).1 := by
  unfold newS
  rw [if_pos (rightB_iff.2 h)]
  show Vf n.toNat (nbS (List.replicate (longN n.toNat) 0))
  have e := field_zeros n.toNat
  rw [← e]; exact Vf.field (by simp)
theorem Vf.full {n : Int} (h : 0 ≤ n ∧ n ≤ 4096) : Vf n.toNat (fullS n).1 := by
  unfold fullS
  rw [if_pos (rightB_iff.2 h)]
  show Vf n.toNat (nbS (fullAt n.toNat n.toNat))
  rw [← field_ones]; exact Vf.field (by simp)
theorem Vf.of_valid {n : Int} {s : ByteArray} (h : 0 ≤ n ∧ n ≤ 4096) (hv : validF n s = true) : Vf n.toNat s := by
  have hv := of_decide_eq_true hv
  unfold wrongS at hv
  rw [if_pos (rightB_iff.2 h)] at hv
  unfold wrongN at hv
  by_cases hs : s.size = longN n.toNat
  · rw [if_pos hs] at hv
    cases hf : firstBad n.toNat s with
    | some i => rw [hf] at hv; have hv : (12 : Int) = 0 := hv; cases hv
    | none =>
      refine ⟨hs, fun j h1 h2 => ?_⟩
      unfold firstBad at hf
      rw [List.find?_eq_none] at hf
      have := hf j (List.mem_range.2 h2)
      rw [decide_eq_true h1] at this
      simpa using this
  · rw [if_neg hs] at hv; have hv : (11 : Int) = 0 := hv; cases hv
theorem Vf.fieldMS {n : Int} {m : M} (h : 0 ≤ n ∧ n ≤ 4096) (hp : validP m = true) (hk : m.kind = 7 ∨ m.kind = 13 ∨ m.kind = 14) (hv : ¬ (m.kind = 7 ∧ validF n m.data = false)) : Vf n.toNat (fieldMS n m).1 := by
  unfold Go.Proofs.Ytdkfkdekiljcoaa.fieldMS
  rw [if_pos hp, if_pos (rightB_iff.2 h)]
  rcases hk with e | e | e
  · rw [if_neg (by omega), if_neg (by omega), if_pos e]
    have hd : validF n m.data = true := by
      cases hq : validF n m.data with
      | true => rfl
      | false => exact absurd ⟨e, hq⟩ hv
    rw [if_pos hd]; exact Vf.of_valid h hd
  · rw [if_pos e]; exact Vf.full h
  · rw [if_neg (by omega), if_pos e]; exact Vf.new h

/-! ## What holds of a way -/
structure WK (c : Co) (K : Nat) (a : Wy) : Prop where
  V : Vf c.n.toNat a.fd
  al : a.al.length ≤ K
  wa : a.wa.length ≤ K
  g : Gok a
  ok : ∀ x ∈ a.wa, chOk x
  nd : a.wa.Nodup
  sub : ∀ x, a.go x ≠ none → x ∈ a.wa
theorem WK.wok {c : Co} {K : Nat} {a : Wy} (h : WK c K a) (hK : K ≤ 1099511627776) : Wok c a := ⟨h.V, Nat.le_trans h.al hK, Nat.le_trans h.wa hK, h.g⟩
theorem WK.up {c : Co} {K : Nat} {a : Wy} (h : WK c K a) : WK c (K + 1) a := ⟨h.V, Nat.le_succ_of_le h.al, Nat.le_succ_of_le h.wa, h.g, h.ok, h.nd, h.sub⟩
theorem WK.new {c : Co} (hn : 0 ≤ c.n ∧ c.n ≤ 4096) : WK c 0 (Wy.new c.n) :=
  ⟨Vf.new hn, Nat.le_refl _, Nat.le_refl _, fun x h => (by cases h), fun x h => (by cases h), List.nodup_nil, fun x h => absurd rfl h⟩
theorem WK.drop {c : Co} {K : Nat} {a : Wy} (h : WK c K a) (x : Ch) : WK c K (a.drop x) := by
  refine ⟨h.V, h.al, Nat.le_trans (drop_len _ _) h.wa, fun y hy => ?_, fun y hy => h.ok y (List.mem_filter.1 hy).1, h.nd.filter _, fun y hy => ?_⟩
  · simp only [Wy.drop, delM] at hy
    split at hy
    · cases hy
    · exact h.g y hy
  · simp only [Wy.drop, delM] at hy ⊢
    by_cases e : y = x
    · rw [if_pos e] at hy; exact absurd rfl hy
    · rw [if_neg e] at hy
      exact List.mem_filter.2 ⟨h.sub y hy, decide_eq_true e⟩
theorem WK.ask {c : Co} {K : Nat} {a : Wy} (h : WK c K a) {x : Ch} (hx : chOk x) (hno : ¬ x ∈ a.wa) : WK c (K + 1) (a.ask x) := by
  refine ⟨h.V, Nat.le_succ_of_le h.al, ?_, h.g, fun y hy => ?_, ?_, fun y hy => List.mem_append_left _ (h.sub y hy)⟩
  · show (a.wa ++ [x]).length ≤ _
    rw [List.length_append]; have := h.wa; simp; omega
  · rcases List.mem_append.1 hy with hy | hy
    · exact h.ok y hy
    · rw [List.mem_singleton] at hy; subst hy; exact hx
  · show (a.wa ++ [x]).Nodup
    rw [List.nodup_append]
    exact ⟨h.nd, by simp, fun y hy z hz e => by rw [List.mem_singleton] at hz; subst hz; subst e; exact hno hy⟩
theorem WK.cancel {c : Co} {K : Nat} {a : Wy} (h : WK c K a) {x : Ch} (hx : x ∈ a.wa) : WK c K (a.cancel x) := by
  refine ⟨h.V, h.al, h.wa, fun y hy => ?_, h.ok, h.nd, fun y hy => ?_⟩
  · simp only [Wy.cancel, upM] at hy
    split at hy
    · cases hy
    · exact h.g y hy
  · simp only [Wy.cancel, upM] at hy
    by_cases e : y = x
    · subst e; exact hx
    · rw [if_neg e] at hy; exact h.sub y hy
theorem WK.shut {c : Co} {K : Nat} {a : Wy} (h : WK c K a) : WK c K a.shut := ⟨h.V, h.al, Nat.zero_le _, fun x hx => (by cases hx), fun x hx => (by cases hx), List.nodup_nil, fun x hx => absurd rfl hx⟩
theorem WK.allow {c : Co} {K : Nat} {a : Wy} (h : WK c K a) (i : Int) : WK c (K + 1) (a.allow i) := ⟨h.V, by show (a.al ++ [i]).length ≤ _; rw [List.length_append]; have := h.al; simp; omega, Nat.le_succ_of_le h.wa, h.g, h.ok, h.nd, h.sub⟩
theorem step_facts {c : Co} {a b : Wy} {m : M} (h : stepE c a b m = 0) : ¬ (m.kind = 7 ∧ validF c.n m.data = false) ∧ fitsS m c.n c.pi c.la = true ∧ ruleE c a b m = 0 := by
  unfold stepE at h
  split at h
  · cases h
  · split at h
    · cases h
    · split at h
      · cases h
      · split at h
        · cases h
        · rename_i h4
          split at h
          · cases h
          · rename_i h5
            exact ⟨h4, by simpa using h5, h⟩
theorem WK.ruleO {c : Co} {K : Nat} {a b : Wy} {m : M} (hn : 1 ≤ c.n ∧ c.n ≤ 4096) (h : WK c K a) (he : stepE c a b m = 0) : WK c (K + 1) (ruleO c a m) := by
  obtain ⟨h4, h5, h6⟩ := step_facts he
  have hu := h.up
  unfold Go.Proofs.Ytdkfkdekiljcoaa.ruleO
  split
  · split
    · exact ⟨hu.V, hu.al, hu.wa, hu.g, hu.ok, hu.nd, hu.sub⟩
    · exact hu.shut
  · split
    · exact ⟨hu.V, hu.al, hu.wa, hu.g, hu.ok, hu.nd, hu.sub⟩
    · split
      · exact ⟨hu.V, hu.al, hu.wa, hu.g, hu.ok, hu.nd, hu.sub⟩
      · split
        · exact ⟨hu.V, hu.al, hu.wa, hu.g, hu.ok, hu.nd, hu.sub⟩
        · split
          · rename_i hk
            have hi := fit_idx h5 (.inl hk)
            exact ⟨hu.V.set (by omega), hu.al, hu.wa, hu.g, hu.ok, hu.nd, hu.sub⟩
          · split
            · rename_i hk
              exact ⟨Vf.fieldMS (by omega) (fitsS_valid h5).1 hk h4, hu.al, hu.wa, hu.g, hu.ok, hu.nd, hu.sub⟩
            · split
              · exact hu.drop _
              · split
                · split
                  · exact hu
                  · exact h.allow _
                · exact hu
theorem chB_no {l : List Ch} {x : Ch} (h : chB l x = false) : ¬ x ∈ l := of_decide_eq_false h
theorem chB_yes {l : List Ch} {x : Ch} (h : chB l x = true) : x ∈ l := of_decide_eq_true h
theorem chB_ff {l : List Ch} {x : Ch} (h : ¬ chB l x = true) : chB l x = false := by simpa using h
theorem WK.ruleP {c : Co} {K : Nat} {a b : Wy} {m : M} (hn : 1 ≤ c.n ∧ c.n ≤ 4096) (h : WK c K b) (he : stepE c a b m = 0) : WK c (K + 1) (ruleP c b m) := by
  obtain ⟨h4, h5, h6⟩ := step_facts he
  unfold Go.Proofs.Ytdkfkdekiljcoaa.ruleP
  split
  · rename_i hk
    split
    · exact h.up
    · rename_i hq
      refine h.ask (fit_blk hn.2 h5 (.inl hk)).1 (chB_no ?_)
      unfold ruleE at h6
      rw [if_pos hk, if_neg hq] at h6
      refine chB_ff fun hc => ?_
      rw [if_pos hc] at h6
      split at h6 <;> cases h6
  · split
    · split
      · exact h.up
      · rename_i hc
        split
        · exact (h.cancel (chB_yes (by simpa using hc))).up
        · exact (h.drop _).up
    · exact h.up
theorem WK.stepO {c : Co} {K : Nat} {a b : Wy} {m : M} (hn : 1 ≤ c.n ∧ c.n ≤ 4096) (h : WK c K a) : WK c (K + 1) (stepO c a b m) := by
  unfold Go.Proofs.Ytdkfkdekiljcoaa.stepO
  split
  · rename_i he
    have hu := h.ruleO hn he
    exact ⟨hu.V, hu.al, hu.wa, hu.g, hu.ok, hu.nd, hu.sub⟩
  · exact h.up
theorem WK.stepP {c : Co} {K : Nat} {a b : Wy} {m : M} (hn : 1 ≤ c.n ∧ c.n ≤ 4096) (h : WK c K b) : WK c (K + 1) (stepP c a b m) := by
  unfold Go.Proofs.Ytdkfkdekiljcoaa.stepP
  split
  · rename_i he
    exact h.ruleP hn he
  · exact h.up
theorem WK.mayO {c : Co} {K : Nat} {a b : Wy} {m : M} (hn : 1 ≤ c.n ∧ c.n ≤ 4096) (h : WK c K a) : WK c (K + 1) (mayO c a b m) := by
  unfold Go.Proofs.Ytdkfkdekiljcoaa.mayO
  split
  · exact h.stepO hn
  · exact h.up
theorem WK.mayQ {c : Co} {K : Nat} {a b : Wy} {m : M} (hn : 1 ≤ c.n ∧ c.n ≤ 4096) (h : WK c K b) : WK c (K + 1) (mayQ c a b m) := by
  unfold Go.Proofs.Ytdkfkdekiljcoaa.mayQ
  split
  · exact h.stepP hn
  · exact h.up
end Go.Proofs.Ytdkfkdekiljcoaa
