import Derived.Test.YtdkfkdekiljcoaaGreatR
import Derived.Test.YtdkfkdekiljcoaaGreatS
import Derived.Test.YtdkfkdekiljcoaaGreatT
set_option linter.unusedSimpArgs false
set_option linter.unusedVariables false
namespace Go.Proofs.YtdkfkdekiljcoaaGreat
open Go.RowKit

theorem word_iff {n : Int} : wordR n = true ↔ 0 ≤ n ∧ n ≤ 4294967295 := by simp [wordR]
theorem vform_words {k i1 i2 i3 i4 i5 : Int} {root data : ByteArray} (h : VForm k i1 i2 i3 i4 i5 root data) : (0 ≤ i1 ∧ i1 ≤ 4294967295) ∧ (0 ≤ i2 ∧ i2 ≤ 4294967295) ∧ (0 ≤ i3 ∧ i3 ≤ 4294967295) ∧ (0 ≤ i4 ∧ i4 ≤ 4294967295) ∧ (0 ≤ i5 ∧ i5 ≤ 4294967295) := by
  rcases h with h | h | h | h | h | h | h | h | h
  · obtain ⟨_, h1, h2, h3, h4, h5, _⟩ := h; omega
  · obtain ⟨_, h1, h2, h3, h4, h5, _⟩ := h; omega
  · obtain ⟨_, h0, h1, h2, h3, h4, h5, _⟩ := h; omega
  · obtain ⟨_, h1, h2, h3, h4, h5, _⟩ := h; omega
  · obtain ⟨_, h1, h2, h0, h3, h4, h5, _⟩ := h; omega
  · obtain ⟨_, h1, h2, h3, h4, h5, _⟩ := h; omega
  · obtain ⟨_, h1, h0, h2, h3, h4, h5, _⟩ := h; omega
  · obtain ⟨_, h0, h1, h2, h3, h4, h5, _⟩ := h; omega
  · obtain ⟨_, h0, h1, h2, h3, h4, h0, h0, h0, h5⟩ := h; omega
theorem not_word {k i1 i2 i3 i4 i5 : Int} {root data : ByteArray} (h : wordR i1 = false ∨ wordR i2 = false ∨ wordR i3 = false ∨ wordR i4 = false ∨ wordR i5 = false) : validP ⟨k, i1, i2, i3, i4, i5, root, data⟩ = false := by
  rw [Bool.eq_false_iff, Ne, validP_form]
  intro hv
  have := vform_words hv
  simp only [← word_iff] at this
  simp [this] at h
theorem not_form {k i1 i2 i3 i4 i5 : Int} {root data : ByteArray} (h : ¬ VForm k i1 i2 i3 i4 i5 root data) : validP ⟨k, i1, i2, i3, i4, i5, root, data⟩ = false := by
  rw [Bool.eq_false_iff, Ne, validP_form]; exact h
theorem via_form {k i1 i2 i3 i4 i5 : Int} {root data : ByteArray} {p : Prop} [Decidable p] {f : Nat} {v : Array Value} {w : World} (hc : Calls Tryz.prog f v w fun e w' => e = .returned (.bool (decide p)) ∧ Sub w w') (h : VForm k i1 i2 i3 i4 i5 root data ↔ p) :
    Calls Tryz.prog f v w fun e w' => e = .returned (.bool (validP ⟨k, i1, i2, i3, i4, i5, root, data⟩)) ∧ Sub w w' := by
  rw [show validP ⟨k, i1, i2, i3, i4, i5, root, data⟩ = decide p by rw [Bool.eq_iff_iff, validP_form, h, decide_eq_true_iff]]
  exact hc
set_option maxHeartbeats 2000000 in
theorem valid_r (m : M) (w : World) : Calls Tryz.prog 45 #[.agg m.cells] w fun e w' => e = .returned (.bool (validP m)) ∧ Sub w w' := by
  obtain ⟨k, i1, i2, i3, i4, i5, root, data⟩ := m
  cases h1 : wordR i1
  · rw [not_word (.inl h1)]; exact vr_word1 k i1 i2 i3 i4 i5 root data h1 w
  cases h2 : wordR i2
  · rw [not_word (.inr (.inl h2))]; exact vr_word2 k i1 i2 i3 i4 i5 root data h1 h2 w
  cases h3 : wordR i3
  · rw [not_word (.inr (.inr (.inl h3)))]; exact vr_word3 k i1 i2 i3 i4 i5 root data h1 h2 h3 w
  cases h4 : wordR i4
  · rw [not_word (.inr (.inr (.inr (.inl h4))))]; exact vr_word4 k i1 i2 i3 i4 i5 root data h1 h2 h3 h4 w
  cases h5 : wordR i5
  · rw [not_word (.inr (.inr (.inr (.inr h5))))]; exact vr_word5 k i1 i2 i3 i4 i5 root data h1 h2 h3 h4 h5 w
  have g1 := word_iff.1 h1
  have g2 := word_iff.1 h2
  have g3 := word_iff.1 h3
  have g4 := word_iff.1 h4
  have g5 := word_iff.1 h5
  by_cases hk : 1 ≤ k ∧ k ≤ 20
  · rcases kinds k hk.1 hk.2 with rfl | rfl | rfl | rfl | rfl | rfl | rfl | rfl | rfl | rfl | rfl | rfl | rfl | rfl | rfl | rfl | rfl | rfl | rfl | rfl
    · refine via_form (vr_keep 1 i1 i2 i3 i4 i5 root data h1 h2 h3 h4 h5 (by decide) (by decide) (by decide) (by decide) (by decide) (by decide) (by decide) (by decide) w) ?_
      simp [VForm, isPlain, M.only, E0, and_assoc, *]
      try omega
    · refine via_form (vr_plain 2 i1 i2 i3 i4 i5 root data h1 h2 h3 h4 h5 (by decide) (by decide) (by decide) (by decide) (by decide) (by decide) (by decide) (by decide) (by decide) w) ?_
      simp [VForm, isPlain, M.only, E0, and_assoc, *]
      try omega
    · refine via_form (vr_plain 3 i1 i2 i3 i4 i5 root data h1 h2 h3 h4 h5 (by decide) (by decide) (by decide) (by decide) (by decide) (by decide) (by decide) (by decide) (by decide) w) ?_
      simp [VForm, isPlain, M.only, E0, and_assoc, *]
      try omega
    · refine via_form (vr_plain 4 i1 i2 i3 i4 i5 root data h1 h2 h3 h4 h5 (by decide) (by decide) (by decide) (by decide) (by decide) (by decide) (by decide) (by decide) (by decide) w) ?_
      simp [VForm, isPlain, M.only, E0, and_assoc, *]
      try omega
    · refine via_form (vr_plain 5 i1 i2 i3 i4 i5 root data h1 h2 h3 h4 h5 (by decide) (by decide) (by decide) (by decide) (by decide) (by decide) (by decide) (by decide) (by decide) w) ?_
      simp [VForm, isPlain, M.only, E0, and_assoc, *]
      try omega
    · refine via_form (vr_idx 6 i1 i2 i3 i4 i5 root data h1 h2 h3 h4 h5 (by decide) (by decide) (by decide) w) ?_
      simp [VForm, isPlain, M.only, E0, and_assoc, *]
      try omega
    · by_cases x0 : (512 : Int) < data.size
      · rw [not_form (by simp [VForm, isPlain]; omega)]
        exact vr_bits0 7 i1 i2 i3 i4 i5 root data h1 h2 h3 h4 h5 (by decide) (by decide) (by decide) (by decide) x0 w
      refine via_form (vr_bits1 7 i1 i2 i3 i4 i5 root data h1 h2 h3 h4 h5 (by decide) (by decide) (by decide) (by decide) x0 w) ?_
      have y0 : data.size ≤ (512 : Int) := by omega
      simp [VForm, isPlain, M.only, E0, and_assoc, *]
      try omega
    · by_cases x0 : i3 < 1
      · rw [not_form (by simp [VForm, isPlain]; omega)]
        exact vr_blk0 8 i1 i2 i3 i4 i5 root data h1 h2 h3 h4 h5 (by decide) (by decide) (by decide) (by decide) (by decide) x0 w
      by_cases x1 : 1024 < i3
      · rw [not_form (by simp [VForm, isPlain]; omega)]
        exact vr_blk1 8 i1 i2 i3 i4 i5 root data h1 h2 h3 h4 h5 (by decide) (by decide) (by decide) (by decide) (by decide) x0 x1 w
      refine via_form (vr_blk2 8 i1 i2 i3 i4 i5 root data h1 h2 h3 h4 h5 (by decide) (by decide) (by decide) (by decide) (by decide) x0 x1 w) ?_
      have y0 : 1 ≤ i3 := by omega
      have y1 : i3 ≤ 1024 := by omega
      simp [VForm, isPlain, M.only, E0, and_assoc, *]
      try omega
    · by_cases x0 : (data.size : Int) < 1
      · rw [not_form (by simp [VForm, isPlain]; omega)]
        exact vr_pc0 9 i1 i2 i3 i4 i5 root data h1 h2 h3 h4 h5 (by decide) (by decide) (by decide) (by decide) (by decide) (by decide) x0 w
      by_cases x1 : (1024 : Int) < data.size
      · rw [not_form (by simp [VForm, isPlain]; omega)]
        exact vr_pc1 9 i1 i2 i3 i4 i5 root data h1 h2 h3 h4 h5 (by decide) (by decide) (by decide) (by decide) (by decide) (by decide) x0 x1 w
      refine via_form (vr_pc2 9 i1 i2 i3 i4 i5 root data h1 h2 h3 h4 h5 (by decide) (by decide) (by decide) (by decide) (by decide) (by decide) x0 x1 w) ?_
      have y0 : 1 ≤ (data.size : Int) := by omega
      have y1 : data.size ≤ (1024 : Int) := by omega
      simp [VForm, isPlain, M.only, E0, and_assoc, *]
      try omega
    · by_cases x0 : i3 < 1
      · rw [not_form (by simp [VForm, isPlain]; omega)]
        exact vr_blk0 10 i1 i2 i3 i4 i5 root data h1 h2 h3 h4 h5 (by decide) (by decide) (by decide) (by decide) (by decide) x0 w
      by_cases x1 : 1024 < i3
      · rw [not_form (by simp [VForm, isPlain]; omega)]
        exact vr_blk1 10 i1 i2 i3 i4 i5 root data h1 h2 h3 h4 h5 (by decide) (by decide) (by decide) (by decide) (by decide) x0 x1 w
      refine via_form (vr_blk2 10 i1 i2 i3 i4 i5 root data h1 h2 h3 h4 h5 (by decide) (by decide) (by decide) (by decide) (by decide) x0 x1 w) ?_
      have y0 : 1 ≤ i3 := by omega
      have y1 : i3 ≤ 1024 := by omega
      simp [VForm, isPlain, M.only, E0, and_assoc, *]
      try omega
    · by_cases x0 : i1 < 1
      · rw [not_form (by simp [VForm, isPlain]; omega)]
        exact vr_pt0 11 i1 i2 i3 i4 i5 root data h1 h2 h3 h4 h5 (by decide) (by decide) (by decide) (by decide) (by decide) (by decide) (by decide) x0 w
      by_cases x1 : 65535 < i1
      · rw [not_form (by simp [VForm, isPlain]; omega)]
        exact vr_pt1 11 i1 i2 i3 i4 i5 root data h1 h2 h3 h4 h5 (by decide) (by decide) (by decide) (by decide) (by decide) (by decide) (by decide) x0 x1 w
      refine via_form (vr_pt2 11 i1 i2 i3 i4 i5 root data h1 h2 h3 h4 h5 (by decide) (by decide) (by decide) (by decide) (by decide) (by decide) (by decide) x0 x1 w) ?_
      have y0 : 1 ≤ i1 := by omega
      have y1 : i1 ≤ 65535 := by omega
      simp [VForm, isPlain, M.only, E0, and_assoc, *]
      try omega
    · refine via_form (vr_idx 12 i1 i2 i3 i4 i5 root data h1 h2 h3 h4 h5 (by decide) (by decide) (by decide) w) ?_
      simp [VForm, isPlain, M.only, E0, and_assoc, *]
      try omega
    · refine via_form (vr_plain 13 i1 i2 i3 i4 i5 root data h1 h2 h3 h4 h5 (by decide) (by decide) (by decide) (by decide) (by decide) (by decide) (by decide) (by decide) (by decide) w) ?_
      simp [VForm, isPlain, M.only, E0, and_assoc, *]
      try omega
    · refine via_form (vr_plain 14 i1 i2 i3 i4 i5 root data h1 h2 h3 h4 h5 (by decide) (by decide) (by decide) (by decide) (by decide) (by decide) (by decide) (by decide) (by decide) w) ?_
      simp [VForm, isPlain, M.only, E0, and_assoc, *]
      try omega
    · by_cases x0 : i3 < 1
      · rw [not_form (by simp [VForm, isPlain]; omega)]
        exact vr_blk0 15 i1 i2 i3 i4 i5 root data h1 h2 h3 h4 h5 (by decide) (by decide) (by decide) (by decide) (by decide) x0 w
      by_cases x1 : 1024 < i3
      · rw [not_form (by simp [VForm, isPlain]; omega)]
        exact vr_blk1 15 i1 i2 i3 i4 i5 root data h1 h2 h3 h4 h5 (by decide) (by decide) (by decide) (by decide) (by decide) x0 x1 w
      refine via_form (vr_blk2 15 i1 i2 i3 i4 i5 root data h1 h2 h3 h4 h5 (by decide) (by decide) (by decide) (by decide) (by decide) x0 x1 w) ?_
      have y0 : 1 ≤ i3 := by omega
      have y1 : i3 ≤ 1024 := by omega
      simp [VForm, isPlain, M.only, E0, and_assoc, *]
      try omega
    · refine via_form (vr_idx 16 i1 i2 i3 i4 i5 root data h1 h2 h3 h4 h5 (by decide) (by decide) (by decide) w) ?_
      simp [VForm, isPlain, M.only, E0, and_assoc, *]
      try omega
    · by_cases x0 : 255 < i1
      · rw [not_form (by simp [VForm, isPlain]; omega)]
        exact vr_ex0 17 i1 i2 i3 i4 i5 root data h1 h2 h3 h4 h5 (by decide) (by decide) (by decide) (by decide) (by decide) (by decide) (by decide) (by decide) x0 w
      by_cases x1 : (4096 : Int) < data.size
      · rw [not_form (by simp [VForm, isPlain]; omega)]
        exact vr_ex1 17 i1 i2 i3 i4 i5 root data h1 h2 h3 h4 h5 (by decide) (by decide) (by decide) (by decide) (by decide) (by decide) (by decide) (by decide) x0 x1 w
      refine via_form (vr_ex2 17 i1 i2 i3 i4 i5 root data h1 h2 h3 h4 h5 (by decide) (by decide) (by decide) (by decide) (by decide) (by decide) (by decide) (by decide) x0 x1 w) ?_
      have y0 : i1 ≤ 255 := by omega
      have y1 : data.size ≤ (4096 : Int) := by omega
      simp [VForm, isPlain, M.only, E0, and_assoc, *]
      try omega
    · by_cases x0 : (root.size : Int) = 32
      · refine via_form (vr_h1 18 i1 i2 i3 i4 i5 root data h1 h2 h3 h4 h5 (by decide) (by decide) (by decide) (by decide) (by decide) (by decide) (by decide) (by decide) (by decide) (by simpa using x0) (by decide) w) ?_
        simp [VForm, isPlain, M.only, E0, and_assoc, *]
        try omega
      · rw [not_form (by simp [VForm, isPlain]; omega)]
        exact vr_h0 18 i1 i2 i3 i4 i5 root data h1 h2 h3 h4 h5 (by decide) (by decide) (by decide) (by decide) (by decide) (by decide) (by decide) (by decide) (by decide) (by simpa using x0) w
    · by_cases x0 : (root.size : Int) = 32
      · by_cases x1 : (data.size : Int) % 32 = 0
        · by_cases x2 : (data.size : Int) < 32
          · rw [not_form (by simp [VForm, isPlain]; omega)]
            exact vr_h3 19 i1 i2 i3 i4 i5 root data h1 h2 h3 h4 h5 (by decide) (by decide) (by decide) (by decide) (by decide) (by decide) (by decide) (by decide) (by decide) (by simpa using x0) (by decide) (by simpa using x1) x2 w
          by_cases x3 : (2048 : Int) < data.size
          · rw [not_form (by simp [VForm, isPlain]; omega)]
            exact vr_h4 19 i1 i2 i3 i4 i5 root data h1 h2 h3 h4 h5 (by decide) (by decide) (by decide) (by decide) (by decide) (by decide) (by decide) (by decide) (by decide) (by simpa using x0) (by decide) (by simpa using x1) x2 x3 w
          refine via_form (vr_h5 19 i1 i2 i3 i4 i5 root data h1 h2 h3 h4 h5 (by decide) (by decide) (by decide) (by decide) (by decide) (by decide) (by decide) (by decide) (by decide) (by simpa using x0) (by decide) (by simpa using x1) x2 x3 w) ?_
          have y0 : 32 ≤ (data.size : Int) := by omega
          have y1 : (data.size : Int) ≤ 2048 := by omega
          simp [VForm, isPlain, M.only, E0, and_assoc, *]
          try omega
        · rw [not_form (by simp [VForm, isPlain]; omega)]
          exact vr_h2 19 i1 i2 i3 i4 i5 root data h1 h2 h3 h4 h5 (by decide) (by decide) (by decide) (by decide) (by decide) (by decide) (by decide) (by decide) (by decide) (by simpa using x0) (by decide) (by simpa using x1) w
      · rw [not_form (by simp [VForm, isPlain]; omega)]
        exact vr_h0 19 i1 i2 i3 i4 i5 root data h1 h2 h3 h4 h5 (by decide) (by decide) (by decide) (by decide) (by decide) (by decide) (by decide) (by decide) (by decide) (by simpa using x0) w
    · by_cases x0 : (root.size : Int) = 32
      · refine via_form (vr_h1 20 i1 i2 i3 i4 i5 root data h1 h2 h3 h4 h5 (by decide) (by decide) (by decide) (by decide) (by decide) (by decide) (by decide) (by decide) (by decide) (by simpa using x0) (by decide) w) ?_
        simp [VForm, isPlain, M.only, E0, and_assoc, *]
        try omega
      · rw [not_form (by simp [VForm, isPlain]; omega)]
        exact vr_h0 20 i1 i2 i3 i4 i5 root data h1 h2 h3 h4 h5 (by decide) (by decide) (by decide) (by decide) (by decide) (by decide) (by decide) (by decide) (by decide) (by simpa using x0) w
  · rw [not_form (fun h => hk (by rw [← validP_form] at h; simp only [validP, Bool.and_eq_true, decide_eq_true_eq] at h; exact h.1.1))]
    exact vr_none k i1 i2 i3 i4 i5 root data h1 h2 h3 h4 h5 (by simp; omega) (by unfold numR; rw [if_neg (by omega)]; decide) w

end Go.Proofs.YtdkfkdekiljcoaaGreat
