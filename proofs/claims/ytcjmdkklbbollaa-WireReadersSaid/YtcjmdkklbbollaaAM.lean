import Derived.Test.YtcjmdkklbbollaaAK
set_option linter.unusedSimpArgs false
set_option linter.unusedVariables false
namespace Go.Proofs.Ytcjmdkklbbollaa
open Go.RowKit

/-- How far Decode has read when it stops. -/
def stopS (s : ByteArray) : Int := if (decS s).2.2.2 = 12 then (decS s).2.2.1 else (decS s).2.1
def restS (s : ByteArray) : M × Int × Int × Int :=
  if (kindP (bt' s 4) : Int) = 0 then (Zm, 0, 4, 12)
  else if mayP (fields (kindP (bt' s 4))) ((rd4 s : Int) - 1) = true then tailS s (kindP (bt' s 4)) (rd4 s)
  else (Zm, 0, 0, 12)
theorem decS_less (s : ByteArray) (h : s.size ≤ 65536) : decS s =
    (if (4200 : Int) < rd4 s then (Zm, 0, 0, 12) else if (s.size : Int) < 4 then (Zm, 0, s.size, 8) else if (rd4 s : Int) = 0 then (⟨1, 0, 0, 0, 0, 0, ⟨#[]⟩, ⟨#[]⟩⟩, 4, -1, 0)
    else if (s.size : Int) < 5 then (Zm, 0, s.size, 8) else restS s : M × Int × Int × Int) := by
  unfold decS
  rw [if_neg (by omega), rd4_pad]
  by_cases h4 : (s.size : Int) < 4
  · by_cases hb : (4200 : Int) < rd4 s
    · rw [if_pos h4, if_pos hb, if_pos hb]; rfl
    · rw [if_pos h4, if_neg hb, if_neg hb, if_pos h4]; rfl
  · by_cases hb : (4200 : Int) < rd4 s
    · rw [if_neg h4, if_pos hb, if_pos hb]; rfl
    · rw [if_neg h4, if_neg hb, if_neg hb, if_neg h4]; rfl
theorem bt_pre (s : ByteArray) (i j : Nat) (h : i ≤ s.size) : bt' (s.extract 0 i) j = if j < i then bt' s j else 0 := by
  by_cases hj : j < i
  · rw [if_pos hj, bt_extract s 0 i j h (by omega), Nat.zero_add]
  · rw [if_neg hj, bt_out _ _ (by rw [ByteArray.size_extract]; omega)]
theorem rd4_pre_le (s : ByteArray) (i : Nat) (h : i ≤ s.size) : rd4 (s.extract 0 i) ≤ rd4 s := by
  have e : ∀ j, bt' (s.extract 0 i) j ≤ bt' s j := fun j => by
    rw [bt_pre _ _ _ h]
    split
    · exact Nat.le_refl _
    · exact Nat.zero_le _
  have e0 := e 0
  have e1 := e 1
  have e2 := e 2
  have e3 := e 3
  rw [rd4_def, rd4_def]
  omega
theorem rd4_pre (s : ByteArray) (i : Nat) (h : i ≤ s.size) (h4 : 4 ≤ i) : rd4 (s.extract 0 i) = rd4 s := by
  rw [rd4_def, rd4_def, bt_pre _ _ _ h, bt_pre _ _ _ h, bt_pre _ _ _ h, bt_pre _ _ _ h, if_pos (by omega), if_pos (by omega), if_pos (by omega), if_pos (by omega)]
theorem size_pre (s : ByteArray) (i : Nat) (h : i ≤ s.size) : (s.extract 0 i).size = i := by rw [ByteArray.size_extract]; omega
theorem none3 (s : ByteArray) (i : Nat) (h : i ≤ s.size) (hs : s.size ≤ 65536) (hb : ¬ (4200 : Int) < rd4 s) (h4 : i < 4) : decS (s.extract 0 i) = (Zm, 0, (i : Int), 8) := by
  have := rd4_pre_le s i h
  rw [decS_less _ (by rw [size_pre s i h]; omega), size_pre s i h, if_neg (by omega), if_pos (by omega)]
theorem none4 (s : ByteArray) (i : Nat) (h : i ≤ s.size) (hs : s.size ≤ 65536) (hb : ¬ (4200 : Int) < rd4 s) (h0 : ¬ (rd4 s : Int) = 0) (h4 : i < 5) : decS (s.extract 0 i) = (Zm, 0, (i : Int), 8) := by
  by_cases h3 : i < 4
  · exact none3 s i h hs hb h3
  · rw [decS_less _ (by rw [size_pre s i h]; omega), size_pre s i h, rd4_pre s i h (by omega), if_neg hb, if_neg (by omega), if_neg h0, if_pos (by omega)]
theorem noneT (s : ByteArray) (i : Nat) (h : i ≤ s.size) (hs : s.size ≤ 65536) (hb : ¬ (4200 : Int) < rd4 s) (h0 : ¬ (rd4 s : Int) = 0) (hk : ¬ (kindP (bt' s 4) : Int) = 0) (hm : mayP (fields (kindP (bt' s 4))) ((rd4 s : Int) - 1) = true)
    (hi : i < 4 + rd4 s) (hr : 5 ≤ i → rangedP (kindP (bt' s 4)) (s.extract 0 i) = -1) : decS (s.extract 0 i) = (Zm, 0, (i : Int), 8) := by
  by_cases h4 : i < 5
  · exact none4 s i h hs hb h0 h4
  · have e : (s.extract 0 i).extract 0 (min ((s.extract 0 i).size : Int) (4 + rd4 s)).toNat = s.extract 0 i := by
      have hmin : (min ((s.extract 0 i).size : Int) (4 + rd4 s)).toNat = i := by rw [size_pre s i h]; omega
      rw [hmin, ext_ext s 0 i 0 i (by omega) h]
      simp only [Nat.zero_add]
    have hb4 : bt' (s.extract 0 i) 4 = bt' s 4 := by rw [bt_pre s i 4 h, if_pos (by omega)]
    rw [decS_less _ (by rw [size_pre s i h]; omega), rd4_pre s i h (by omega)]
    unfold restS tailS
    rw [rd4_pre s i h (by omega), e, size_pre s i h, if_neg hb, if_neg (by omega), if_neg h0, if_neg (by omega), hb4, if_neg hk, if_pos hm, hr (by omega), if_neg (by omega), if_pos (by omega)]
theorem rangedP_pre (k : Nat) (s : ByteArray) (i n : Nat) (h : i ≤ n) (hn : n ≤ s.size) (hr : rangedP k (s.extract 0 n) = -1) (h11 : k = 11 → isBlock k = false) : rangedP k (s.extract 0 i) = -1 := by
  by_cases hbk : isBlock k = true
  · by_cases h17 : (17 : Int) ≤ i
    · have e : (s.extract 0 i).extract 13 17 = (s.extract 0 n).extract 13 17 := by rw [ext_ext s 0 i 13 17 (by omega) (by omega), ext_ext s 0 n 13 17 (by omega) (by omega)]
      rw [rangedP, if_pos hbk, size_pre _ _ hn, if_pos (by omega)] at hr
      rw [rangedP, if_pos hbk, size_pre _ _ (by omega), if_pos h17, e]; exact hr
    · have hne : ¬ ((k : Int) = 11) := fun hc => by rw [h11 (by omega)] at hbk; cases hbk
      rw [rangedP, if_pos hbk, size_pre _ _ (by omega), if_neg h17, if_neg hne]
  · by_cases hk : (k : Int) = 11
    · rw [rangedP, if_neg hbk, if_pos hk, size_pre _ _ hn] at hr
      rw [rangedP, if_neg hbk, if_pos hk, size_pre _ _ (by omega)]
      by_cases h7 : (7 : Int) ≤ i
      · rw [if_pos (by omega)] at hr
        rw [if_pos h7]
        have n5 : bt' (s.extract 0 n) 5 = bt' s 5 := by rw [bt_pre s n 5 hn, if_pos (by omega)]
        have n6 : bt' (s.extract 0 n) 6 = bt' s 6 := by rw [bt_pre s n 6 hn, if_pos (by omega)]
        have i5 : bt' (s.extract 0 i) 5 = bt' s 5 := by rw [bt_pre s i 5 (by omega), if_pos (by omega)]
        have i6 : bt' (s.extract 0 i) 6 = bt' s 6 := by rw [bt_pre s i 6 (by omega), if_pos (by omega)]
        rw [n5, n6] at hr
        rw [i5, i6]; exact hr
      · rw [if_neg h7]
    · rw [rangedP, if_neg hbk, if_neg hk]
theorem rangedP_out (k : Nat) (s : ByteArray) : rangedP k s = -1 ∨ (isBlock k = true ∧ rangedP k s = 13 ∧ 17 ≤ s.size) ∨ (k = 11 ∧ rangedP k s = 5 ∧ 7 ≤ s.size) := by
  by_cases hbk : isBlock k = true
  · rw [rangedP, if_pos hbk]
    split
    · split
      · exact .inr (.inl ⟨hbk, rfl, by omega⟩)
      · split
        · exact .inr (.inl ⟨hbk, rfl, by omega⟩)
        · exact .inl rfl
    · split
      · rename_i h; rw [h] at hbk; exact absurd hbk (by decide)
      · exact .inl rfl
  · rw [rangedP, if_neg hbk]
    split
    · split
      · split
        · split
          · exact .inr (.inr ⟨by omega, rfl, by omega⟩)
          · exact .inl rfl
        · exact .inl rfl
      · exact .inl rfl
    · exact .inl rfl
theorem block11 (k : Nat) (h : k = 11) : isBlock k = false := by subst h; decide
theorem stop_law (s : ByteArray) (hs : s.size ≤ 65536) : ((decS s).2.2.2 = 0 ∨ (decS s).2.2.2 = 12 ∨ (decS s).2.2.2 = 8) ∧ (0 ≤ stopS s ∧ stopS s ≤ s.size) ∧ ∀ i : Nat, (i : Int) < stopS s → decS (s.extract 0 i) = (Zm, 0, (i : Int), 8) := by
  unfold stopS
  by_cases hb : (4200 : Int) < rd4 s
  · have e : decS s = (Zm, 0, 0, 12) := by rw [decS_less s hs, if_pos hb]
    rw [e]; exact ⟨.inr (.inl rfl), ⟨by show (0 : Int) ≤ 0; omega, by show (0 : Int) ≤ _; omega⟩, fun i (hi : (i : Int) < 0) => by omega⟩
  by_cases h4 : (s.size : Int) < 4
  · have e : decS s = (Zm, 0, (s.size : Int), 8) := by rw [decS_less s hs, if_neg hb, if_pos h4]
    rw [e]; exact ⟨.inr (.inr rfl), ⟨by show (0 : Int) ≤ 0; omega, by show (0 : Int) ≤ _; omega⟩, fun i (hi : (i : Int) < 0) => by omega⟩
  by_cases h0 : (rd4 s : Int) = 0
  · have e : decS s = (⟨1, 0, 0, 0, 0, 0, ⟨#[]⟩, ⟨#[]⟩⟩, 4, -1, 0) := by rw [decS_less s hs, if_neg hb, if_neg h4, if_pos h0]
    rw [e]
    exact ⟨.inl rfl, ⟨by show (0 : Int) ≤ 4; omega, by show (4 : Int) ≤ _; omega⟩, fun i (hi : (i : Int) < 4) => none3 s i (by omega) hs hb (by omega)⟩
  by_cases h5 : (s.size : Int) < 5
  · have e : decS s = (Zm, 0, (s.size : Int), 8) := by rw [decS_less s hs, if_neg hb, if_neg h4, if_neg h0, if_pos h5]
    rw [e]; exact ⟨.inr (.inr rfl), ⟨by show (0 : Int) ≤ 0; omega, by show (0 : Int) ≤ _; omega⟩, fun i (hi : (i : Int) < 0) => by omega⟩
  have e0 : decS s = restS s := by rw [decS_less s hs, if_neg hb, if_neg h4, if_neg h0, if_neg h5]
  rw [e0]
  unfold restS
  by_cases hk : (kindP (bt' s 4) : Int) = 0
  · rw [if_pos hk]
    exact ⟨.inr (.inl rfl), ⟨by show (0 : Int) ≤ 4; omega, by show (4 : Int) ≤ _; omega⟩, fun i (hi : (i : Int) < 4) => none3 s i (by omega) hs hb (by omega)⟩
  rw [if_neg hk]
  by_cases hm : mayP (fields (kindP (bt' s 4))) ((rd4 s : Int) - 1) = true
  · rw [if_pos hm]
    have hN := fun i h => noneT s i h hs hb h0 hk hm
    have hkr := kindP_rng _ hk
    have hms := may_sizes _ hkr.1 hkr.2 _ hm (rd4 s - 1) (by omega)
    generalize hkk : kindP (bt' s 4) = k at *
    unfold tailS
    have hz : (s.extract 0 (min (s.size : Int) (4 + rd4 s)).toNat).size = (min (s.size : Int) (4 + rd4 s)).toNat := size_pre s _ (by omega)
    rcases rangedP_out k (s.extract 0 (min (s.size : Int) (4 + rd4 s)).toNat) with hr | ⟨hbk, hr, h17⟩ | ⟨rfl, hr, h7⟩
    · rw [hr, if_neg (by omega)]
      by_cases hl : (s.size : Int) < 4 + rd4 s
      · rw [if_pos hl]
        exact ⟨.inr (.inr rfl), ⟨by show (0 : Int) ≤ 0; omega, by show (0 : Int) ≤ _; omega⟩, fun i (hi : (i : Int) < 0) => by omega⟩
      · rw [if_neg hl]
        refine ⟨.inl rfl, ⟨by show (0 : Int) ≤ 4 + rd4 s; omega, by show (4 + rd4 s : Int) ≤ _; omega⟩, fun i (hi : (i : Int) < 4 + rd4 s) => ?_⟩
        exact hN i (by omega) (by omega) (fun _ => rangedP_pre k s i _ (by omega) (by omega) hr (block11 k))
    · rw [hr, if_pos (by omega)]
      refine ⟨.inr (.inl rfl), ⟨by show (0 : Int) ≤ 13; omega, by show (13 : Int) ≤ _; omega⟩, fun i (hi : (i : Int) < 13) => ?_⟩
      refine hN i (by omega) (by omega) (fun _ => ?_)
      have hne : ¬ ((k : Int) = 11) := fun hc => by rw [block11 k (by omega)] at hbk; cases hbk
      rw [rangedP, if_pos hbk, size_pre _ _ (by omega), if_neg (by omega), if_neg hne]
    · rw [hr, if_pos (by omega)]
      refine ⟨.inr (.inl rfl), ⟨by show (0 : Int) ≤ 5; omega, by show (5 : Int) ≤ _; omega⟩, fun i (hi : (i : Int) < 5) => ?_⟩
      exact hN i (by omega) (by omega) (fun _ => by omega)
  · rw [if_neg hm]
    exact ⟨.inr (.inl rfl), ⟨by show (0 : Int) ≤ 0; omega, by show (0 : Int) ≤ _; omega⟩, fun i (hi : (i : Int) < 0) => by omega⟩
end Go.Proofs.Ytcjmdkklbbollaa
