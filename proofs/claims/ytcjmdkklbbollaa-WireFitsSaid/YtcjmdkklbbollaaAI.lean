import Derived.Test.YtcjmdkklbbollaaAH
set_option linter.unusedSimpArgs false
set_option linter.unusedVariables false
namespace Go.Proofs.Ytcjmdkklbbollaa
open Go.RowKit

theorem bl_append (a b : ByteArray) : (a ++ b).data.toList = a.data.toList ++ b.data.toList := by simp
theorem bt_extract (s : ByteArray) (a b i : Nat) (hb : b ≤ s.size) (hi : a + i < b) : bt' (s.extract a b) i = bt' s (a + i) := by
  unfold bt'
  rw [extract_list, List.getElem?_drop, List.getElem?_take, if_pos hi]
theorem bt_append_l (a b : ByteArray) (i : Nat) (h : i < a.size) : bt' (a ++ b) i = bt' a i := by
  unfold bt'
  rw [bl_append, List.getElem?_append_left (by simpa using h)]
theorem bt_append_r (a b : ByteArray) (i : Nat) (h : a.size ≤ i) : bt' (a ++ b) i = bt' b (i - a.size) := by
  unfold bt'
  rw [bl_append, List.getElem?_append_right (by simpa using h)]
  simp
theorem bt_zeros (n i : Nat) : bt' ⟨(List.replicate n 0).toArray⟩ i = 0 := by
  unfold bt'
  simp only [List.getElem?_replicate]
  split <;> rfl
theorem rd4_def (s : ByteArray) : rd4 s = ((bt' s 0 * 256 + bt' s 1) * 256 + bt' s 2) * 256 + bt' s 3 := rfl
theorem beTo4 (s : ByteArray) (a : Nat) : beTo s a 4 = ((bt' s a * 256 + bt' s (a + 1)) * 256 + bt' s (a + 2)) * 256 + bt' s (a + 3) := by simp [beTo]
theorem rd4_extract (s : ByteArray) (a b : Nat) (hb : b ≤ s.size) (h : a + 4 ≤ b) : rd4 (s.extract a b) = beTo s a 4 := by
  rw [rd4_def, beTo4, bt_extract s a b 0 hb (by omega), bt_extract s a b 1 hb (by omega), bt_extract s a b 2 hb (by omega), bt_extract s a b 3 hb (by omega)]
  rfl
theorem ext_ext (s : ByteArray) (a b c d : Nat) (h : a + d ≤ b) (hb : b ≤ s.size) : (s.extract a b).extract c d = s.extract (a + c) (a + d) := by
  apply ByteArray.ext
  rw [← Array.toList_inj, extract_list, extract_list, extract_list]
  rw [List.take_drop, List.drop_drop, List.take_take, Nat.min_eq_left (by omega)]
theorem good3_iff (s : ByteArray) : good3 s = true ↔ (0 < s.size → bt' s 0 = 0) ∧ (1 < s.size → bt' s 1 = 0) ∧ (2 < s.size → bt' s 2 ≤ 16) := by
  rw [good3, List.all_eq_true]
  constructor
  · intro h
    have h' : ∀ j, j < s.size → j < 3 → bt' s j ≤ mostB j := fun j h1 h2 => by simpa using h j (by simp; omega)
    refine ⟨fun h1 => ?_, fun h1 => ?_, fun h1 => ?_⟩
    · have := h' 0 h1 (by omega); simp [mostB] at this; exact this
    · have := h' 1 h1 (by omega); simp [mostB] at this; exact this
    · have := h' 2 h1 (by omega); simp [mostB] at this; exact this
  · rintro ⟨h0, h1, h2⟩ j hj
    simp only [List.mem_range] at hj
    rw [decide_eq_true_eq]
    rcases (by omega : j = 0 ∨ j = 1 ∨ j = 2) with rfl | rfl | rfl
    · rw [h0 (by omega)]; simp [mostB]
    · rw [h1 (by omega)]; simp [mostB]
    · have := h2 (by omega); simpa [mostB] using this
theorem bt_out (s : ByteArray) (i : Nat) (h : s.size ≤ i) : bt' s i = 0 := by
  unfold bt'
  rw [List.getElem?_eq_none (by simpa using h)]; rfl
theorem rd4_pad (s : ByteArray) (n : Nat) : rd4 (s ++ ⟨(List.replicate n 0).toArray⟩) = rd4 s := by
  have h : ∀ i, bt' (s ++ ⟨(List.replicate n 0).toArray⟩) i = bt' s i := fun i => by
    by_cases hi : i < s.size
    · exact bt_append_l _ _ _ hi
    · rw [bt_append_r _ _ _ (by omega), bt_zeros, bt_out _ _ (by omega)]
  rw [rd4_def, rd4_def, h, h, h, h]
theorem kinds20 (k : Nat) (h : 2 ≤ k ∧ k ≤ 20) : (k = 6 ∨ k = 12 ∨ k = 16) ∨ k = 7 ∨ (k = 8 ∨ k = 10 ∨ k = 15) ∨ k = 9 ∨ k = 11 ∨ k = 17 ∨ (k = 18 ∨ k = 20) ∨ k = 19 ∨ (k = 2 ∨ k = 3 ∨ k = 4 ∨ k = 5 ∨ k = 13 ∨ k = 14) := by omega
/-- The two ways of reading what stands behind a number agree. -/
def tailS (s : ByteArray) (k n : Nat) : M × Int × Int × Int :=
  if (0 : Int) ≤ rangedP k (s.extract 0 (min (s.size : Int) (4 + n)).toNat) then (Zm, 0, rangedP k (s.extract 0 (min (s.size : Int) (4 + n)).toNat), 12)
  else if (s.size : Int) < 4 + n then (Zm, 0, s.size, 8)
  else (takenP k (s.extract 5 (4 + (n : Int)).toNat), 4 + n, -1, 0)
theorem rangedP_none {k : Nat} (h1 : isBlock k = false) (h2 : ¬ k = 11) (s : ByteArray) : rangedP k s = -1 := by
  have : ¬ ((k : Int) = 11) := by omega
  simp only [rangedP, h1, Bool.false_eq_true, if_false, if_neg this]
theorem okNum_four (x : Nat) (h : x < 4294967296) : okNum 0 4294967295 x = true := by simp [okNum]; omega
theorem decG_num {s : ByteArray} {n a z : Nat} {f : F} {rest : List F} {m : M} (h : f.off ≤ 5) (hz : fsz f n a = z) : decG s n (f :: rest) a m =
    if (s.size : Int) < a + z then .inl (s.size, 8) else if okNum f.lo f.hi (beTo s a z) = true then decG s n rest (a + z) (m.setNum f.off (beTo s a z)) else .inl (a, 12) := by
  subst hz
  simp only [decG, if_pos h]
theorem decG_txt {s : ByteArray} {n a z : Nat} {f : F} {rest : List F} {m : M} (h : ¬ f.off ≤ 5) (hz : fsz f n a = z) : decG s n (f :: rest) a m =
    if (s.size : Int) < a + z then .inl (s.size, 8) else decG s n rest (a + z) (m.setText f.off (s.extract a (a + z))) := by
  subst hz
  simp only [decG, if_neg h]
theorem decG_four {s : ByteArray} {n a k off : Nat} {rest : List F} {m : M} (h : off ≤ 5) : decG s n (F4 k off :: rest) a m =
    if (s.size : Int) < a + 4 then .inl (s.size, 8) else decG s n rest (a + 4) (m.setNum off (beTo s a 4)) := by
  rw [decG_num (z := 4) h (by simp [fsz, F4])]
  have : okNum (F4 k off).lo (F4 k off).hi (beTo s a 4) = true := okNum_four _ (beTo_lt4 _ _ _ (by omega))
  rw [if_pos this]; rfl
/-- More of the same length. -/
theorem less_more {α : Type} {c d : Prop} [Decidable c] [Decidable d] (h : c → d) (x y : α) : (if c then x else if d then x else y) = if d then x else y := by
  by_cases hc : c
  · rw [if_pos hc, if_pos (h hc)]
  · rw [if_neg hc]
theorem tailS_plain {s : ByteArray} {k n : Nat} (h1 : isBlock k = false) (h2 : ¬ k = 11) : tailS s k n = if (s.size : Int) < 4 + n then (Zm, 0, (s.size : Int), (8 : Int)) else (takenP k (s.extract 5 (4 + (n : Int)).toNat), (4 : Int) + n, -1, 0) := by
  unfold tailS
  rw [rangedP_none h1 h2, if_neg (by omega)]
theorem outG_ite {c : Prop} [Decidable c] (x y : (Int × Int) ⊕ (M × Nat)) : outG (if c then x else y) = if c then outG x else outG y := by split <;> rfl
theorem tail_idx (s : ByteArray) (k n : Nat) (hk : k = 6 ∨ k = 12 ∨ k = 16) (hm : mayP (fields k) ((n : Int) - 1) = true) : outG (decG s n (fields k) 5 (M.only k)) = tailS s k n := by
  have hf : fields k = fsOne := by rcases hk with rfl | rfl | rfl <;> rfl
  have hn : n = 5 := by rw [hf] at hm; simp [fsOne, F4, mayP] at hm; omega
  subst hn
  have hi : isIdx k = true := by rcases hk with rfl | rfl | rfl <;> decide
  rw [tailS_plain (by rcases hk with rfl | rfl | rfl <;> decide) (by omega), hf, fsOne, decG_four (by omega), outG_ite]
  by_cases hs : s.size < 9
  · rw [if_pos (by omega), if_pos (by omega)]; rfl
  · rw [if_neg (by omega), if_neg (by omega)]
    show (_, _, _, _) = (takenP _ (s.extract 5 9), _, _, _)
    rw [takenP, if_pos hi, rd4_extract s 5 9 (by omega) (by omega)]
    rfl
theorem tail_none (s : ByteArray) (k n : Nat) (hk : k = 2 ∨ k = 3 ∨ k = 4 ∨ k = 5 ∨ k = 13 ∨ k = 14) (hs5 : 5 ≤ s.size) (hm : mayP (fields k) ((n : Int) - 1) = true) : outG (decG s n (fields k) 5 (M.only k)) = tailS s k n := by
  have hf : fields k = [] := by rcases hk with rfl | rfl | rfl | rfl | rfl | rfl <;> rfl
  have hn : n = 1 := by rw [hf] at hm; simp [mayP] at hm; omega
  subst hn
  rw [tailS_plain (by rcases hk with rfl | rfl | rfl | rfl | rfl | rfl <;> decide) (by omega), if_neg (by omega), hf]
  have : takenP k (s.extract 5 (4 + ((1 : Nat) : Int)).toNat) = M.only k := by
    rcases hk with rfl | rfl | rfl | rfl | rfl | rfl <;> rfl
  rw [this]; rfl
theorem four_nat (n : Nat) : (4 + (n : Int)).toNat = 4 + n := by omega
theorem tail_bits (s : ByteArray) (k n : Nat) (hk : k = 7) (hm : mayP (fields k) ((n : Int) - 1) = true) : outG (decG s n (fields k) 5 (M.only k)) = tailS s k n := by
  subst hk
  have hn : 1 ≤ n := by simp [fields, fsBits, FRest, mayP, okRest] at hm; omega
  have hz : fsz (FRest 0 512 1) n 5 = n - 1 := by simp [fsz, FRest]; omega
  rw [tailS_plain (by decide) (by omega), show fields 7 = [FRest 0 512 1] from rfl, decG_txt (by decide) hz, outG_ite, four_nat]
  by_cases hs : s.size < 4 + n
  · rw [if_pos (by omega), if_pos (by omega)]; rfl
  · rw [if_neg (by omega), if_neg (by omega), show 5 + (n - 1) = 4 + n from by omega]
    show (_, _, _, _) = (_, _, _, _)
    rw [show ((4 + n : Nat) : Int) = 4 + (n : Int) from by omega]; rfl
theorem tail_piece (s : ByteArray) (k n : Nat) (hk : k = 9) (hm : mayP (fields k) ((n : Int) - 1) = true) : outG (decG s n (fields k) 5 (M.only k)) = tailS s k n := by
  subst hk
  have hn : 10 ≤ n := by simp [fields, fsPiece, F4, FRest, mayP, okRest] at hm; omega
  have hz : fsz (FRest 1 1024 1) n 13 = n - 9 := by simp [fsz, FRest]; omega
  rw [tailS_plain (by decide) (by omega), show fields 9 = [F4 76 1, F4 77 2, FRest 1 1024 1] from rfl, decG_four (by omega), decG_four (by omega), decG_txt (by decide) hz, less_more (by omega), less_more (by omega), outG_ite, four_nat]
  by_cases hs : s.size < 4 + n
  · rw [if_pos (by omega), if_pos (by omega)]; rfl
  · rw [if_neg (by omega), if_neg (by omega), show 5 + 4 + 4 + (n - 9) = 4 + n from by omega]
    have ht : takenP (9 : Nat) (s.extract 5 (4 + n)) = ⟨9, beTo s 5 4, beTo s 9 4, 0, 0, 0, ⟨#[]⟩, s.extract 13 (4 + n)⟩ := by
      have hz2 : (s.extract 5 (4 + n)).size = n - 1 := by rw [ByteArray.size_extract]; omega
      rw [takenP, if_neg (by decide), if_neg (by decide), if_neg (by decide), if_pos (by decide), hz2, ext_ext s 5 _ 4 _ (by omega) (by omega), ext_ext s 5 _ 8 _ (by omega) (by omega), rd4_extract s _ _ (by omega) (by omega), rd4_extract s _ _ (by omega) (by omega), show 5 + (n - 1) = 4 + n from by omega]
      rfl
    rw [ht]
    show (_, _, _, _) = (_, _, _, _)
    rw [show ((4 + n : Nat) : Int) = 4 + (n : Int) from by omega]; rfl
theorem tail_ext (s : ByteArray) (k n : Nat) (hk : k = 17) (hm : mayP (fields k) ((n : Int) - 1) = true) : outG (decG s n (fields k) 5 (M.only k)) = tailS s k n := by
  subst hk
  have hn : 2 ≤ n := by simp [fields, fsExt, FRest, mayP, okRest] at hm; omega
  have hz : fsz (FRest 0 4096 1) n 6 = n - 2 := by simp [fsz, FRest]; omega
  have hb1 : beTo s 5 1 = bt' s 5 := by simp [beTo]
  have l5 := bt'_lt s 5
  rw [tailS_plain (by decide) (by omega), show fields 17 = [⟨1, 76, 1, 0, 255, 0⟩, FRest 0 4096 1] from rfl, decG_num (z := 1) (by decide) (by simp [fsz]), hb1, if_pos (show okNum 0 255 (bt' s 5) = true by simp [okNum]; omega), decG_txt (by decide) hz, less_more (by omega), outG_ite, four_nat]
  by_cases hs : s.size < 4 + n
  · rw [if_pos (by omega), if_pos (by omega)]; rfl
  · rw [if_neg (by omega), if_neg (by omega), show 5 + 1 + (n - 2) = 4 + n from by omega]
    have ht : takenP (17 : Nat) (s.extract 5 (4 + n)) = ⟨17, bt' s 5, 0, 0, 0, 0, ⟨#[]⟩, s.extract 6 (4 + n)⟩ := by
      have hz2 : (s.extract 5 (4 + n)).size = n - 1 := by rw [ByteArray.size_extract]; omega
      rw [takenP, if_neg (by decide), if_neg (by decide), if_neg (by decide), if_neg (by decide), if_neg (by decide), if_pos (by decide), hz2, ext_ext s 5 _ 1 _ (by omega) (by omega), bt_extract s _ _ _ (by omega) (by omega), show 5 + (n - 1) = 4 + n from by omega]
      rfl
    rw [ht]
    show (_, _, _, _) = (_, _, _, _)
    rw [show ((4 + n : Nat) : Int) = 4 + (n : Int) from by omega]; rfl
theorem hash_taken (s : ByteArray) (k n : Nat) (hi : isHash k = true) (hi1 : isIdx k = false) (hi2 : isBlock k = false) (h7 : ¬ (k : Int) = 7) (h9 : ¬ (k : Int) = 9) (h11 : ¬ (k : Int) = 11) (h17 : ¬ (k : Int) = 17) (hn : 49 ≤ n) (hs : 4 + n ≤ s.size) :
    takenP k (s.extract 5 (4 + n)) = ⟨k, beTo s 41 4, 0, beTo s 45 4, beTo s 37 4, beTo s 49 4, s.extract 5 37, s.extract 53 (4 + n)⟩ := by
  have hz2 : (s.extract 5 (4 + n)).size = n - 1 := by rw [ByteArray.size_extract]; omega
  rw [takenP, if_neg (by rw [hi1]; simp), if_neg h7, if_neg (by rw [hi2]; simp), if_neg h9, if_neg h11, if_neg h17, if_pos hi, hz2, ext_ext s 5 _ 36 _ (by omega) (by omega), ext_ext s 5 _ 40 _ (by omega) (by omega), ext_ext s 5 _ 32 _ (by omega) (by omega), ext_ext s 5 _ 44 _ (by omega) (by omega), ext_ext s 5 _ 0 _ (by omega) (by omega), ext_ext s 5 _ 48 _ (by omega) (by omega),
    rd4_extract s _ _ (by omega) (by omega), rd4_extract s _ _ (by omega) (by omega), rd4_extract s _ _ (by omega) (by omega), rd4_extract s _ _ (by omega) (by omega), show 5 + (n - 1) = 4 + n from by omega]
theorem tail_ask (s : ByteArray) (k n : Nat) (hk : k = 18 ∨ k = 20) (hm : mayP (fields k) ((n : Int) - 1) = true) : outG (decG s n (fields k) 5 (M.only k)) = tailS s k n := by
  have hf : fields k = [FRoot, F4 80 4, F4 76 1, F4 78 3, F4 81 5] := by rcases hk with rfl | rfl <;> rfl
  have hn : n = 49 := by rw [hf] at hm; simp [F4, FRoot, mayP] at hm; omega
  subst hn
  rw [tailS_plain (by rcases hk with rfl | rfl <;> decide) (by omega), hf, decG_txt (z := 32) (by decide) (by decide), decG_four (by omega), decG_four (by omega), decG_four (by omega), decG_four (by omega), less_more (by omega), less_more (by omega), less_more (by omega), less_more (by omega), outG_ite, four_nat]
  by_cases hs : s.size < 53
  · rw [if_pos (by omega), if_pos (by omega)]; rfl
  · rw [if_neg (by omega), if_neg (by omega), hash_taken s k 49 (by rcases hk with rfl | rfl <;> decide) (by rcases hk with rfl | rfl <;> decide) (by rcases hk with rfl | rfl <;> decide) (by omega) (by omega) (by omega) (by omega) (by omega) (by omega)]
    have he : s.extract 53 (4 + 49) = ⟨#[]⟩ := by
      apply ByteArray.ext
      rw [← Array.toList_inj, extract_list]
      exact List.drop_eq_nil_of_le (by simp; omega)
    rw [he]; rfl
theorem tail_hash (s : ByteArray) (k n : Nat) (hk : k = 19) (hm : mayP (fields k) ((n : Int) - 1) = true) : outG (decG s n (fields k) 5 (M.only k)) = tailS s k n := by
  subst hk
  have hn : 81 ≤ n := by simp [fields, fsHash, fsAsk, F4, FRoot, FRest, mayP, okRest] at hm; omega
  have hz : fsz (FRest 32 2048 32) n 53 = n - 49 := by simp [fsz, FRest]; omega
  rw [tailS_plain (by decide) (by omega), show fields 19 = [FRoot, F4 80 4, F4 76 1, F4 78 3, F4 81 5, FRest 32 2048 32] from rfl, decG_txt (z := 32) (by decide) (by simp [fsz, FRoot]), decG_four (by omega), decG_four (by omega), decG_four (by omega), decG_four (by omega), decG_txt (by decide) hz, less_more (by omega), less_more (by omega), less_more (by omega), less_more (by omega), less_more (by omega), outG_ite, four_nat]
  by_cases hs : s.size < 4 + n
  · rw [if_pos (by omega), if_pos (by omega)]; rfl
  · rw [if_neg (by omega), if_neg (by omega), hash_taken s 19 n (by decide) (by decide) (by decide) (by decide) (by decide) (by decide) (by decide) (by omega) (by omega), show 5 + 32 + 4 + 4 + 4 + 4 + (n - 49) = 4 + n from by omega]
    show (_, _, _, _) = (_, _, _, _)
    rw [show ((4 + n : Nat) : Int) = 4 + (n : Int) from by omega]; rfl
theorem tail_block (s : ByteArray) (k n : Nat) (hk : k = 8 ∨ k = 10 ∨ k = 15) (hs5 : 5 ≤ s.size) (hm : mayP (fields k) ((n : Int) - 1) = true) : outG (decG s n (fields k) 5 (M.only k)) = tailS s k n := by
  have hf : fields k = [F4 76 1, F4 77 2, FLen] := by rcases hk with rfl | rfl | rfl <;> rfl
  have hn : n = 13 := by rw [hf] at hm; simp [F4, FLen, mayP] at hm; omega
  subst hn
  have hb : isBlock k = true := by rcases hk with rfl | rfl | rfl <;> decide
  have hi : isIdx k = false := by rcases hk with rfl | rfl | rfl <;> decide
  have h7 : ¬ ((k : Int) = 7) := by omega
  have h11 : ¬ ((k : Int) = 11) := by omega
  rw [hf, decG_four (by omega), decG_four (by omega), decG_num (z := 4) (by decide) (by decide), less_more (by omega), less_more (by omega), outG_ite]
  unfold tailS
  by_cases hs : 17 ≤ s.size
  · have e0 : (min (s.size : Int) (4 + (13 : Nat))).toNat = 17 := by omega
    have hsz : (s.extract 0 17).size = 17 := by rw [ByteArray.size_extract]; omega
    have hr : rangedP k (s.extract 0 17) = if (beTo s 13 4 : Int) < 1 then 13 else if (1024 : Int) < beTo s 13 4 then 13 else -1 := by
      rw [rangedP, if_pos hb, if_pos (by omega), ext_ext s 0 17 13 17 (by omega) (by omega), rd4_extract s _ _ (by omega) (by omega)]
    have ho : ∀ b, okNum FLen.lo FLen.hi (beTo s (5 + 4 + 4) 4 : Int) = b ↔ (decide ((1 : Int) ≤ beTo s 13 4) && decide ((beTo s 13 4 : Int) ≤ 1024)) = b := fun b => Iff.rfl
    rw [e0, hr, if_neg (show ¬ (s.size : Int) < ((5 + 4 + 4 : Nat) : Int) + (4 : Nat) by omega)]
    by_cases h1 : (beTo s 13 4 : Int) < 1
    · rw [if_pos h1, if_pos (show (0 : Int) ≤ 13 by omega), if_neg (show ¬ okNum FLen.lo FLen.hi (beTo s (5 + 4 + 4) 4 : Int) = true by rw [ho]; simp; omega)]; rfl
    · rw [if_neg h1]
      by_cases h2 : (1024 : Int) < beTo s 13 4
      · rw [if_pos h2, if_pos (show (0 : Int) ≤ 13 by omega), if_neg (show ¬ okNum FLen.lo FLen.hi (beTo s (5 + 4 + 4) 4 : Int) = true by rw [ho]; simp; omega)]; rfl
      · rw [if_neg h2, if_neg (show ¬ (0 : Int) ≤ -1 by omega), if_neg (show ¬ (s.size : Int) < 4 + (13 : Nat) by omega), if_pos (show okNum FLen.lo FLen.hi (beTo s (5 + 4 + 4) 4 : Int) = true by rw [ho]; simp; omega)]
        have ht : takenP k (s.extract 5 (4 + ((13 : Nat) : Int)).toNat) = ⟨k, beTo s 5 4, beTo s 9 4, beTo s 13 4, 0, 0, ⟨#[]⟩, ⟨#[]⟩⟩ := by
          show takenP k (s.extract 5 17) = _
          have hz2 : (s.extract 5 17).size = 12 := by rw [ByteArray.size_extract]; omega
          rw [takenP, if_neg (by rw [hi]; simp), if_neg h7, if_pos hb, hz2, ext_ext s 5 17 4 12 (by omega) (by omega), ext_ext s 5 17 8 12 (by omega) (by omega), rd4_extract s _ _ (by omega) (by omega), rd4_extract s _ _ (by omega) (by omega), rd4_extract s _ _ (by omega) (by omega)]
        rw [ht]; rfl
  · have hr : rangedP k (s.extract 0 (min (s.size : Int) (4 + (13 : Nat))).toNat) = -1 := by
      have hz2 : (s.extract 0 (min (s.size : Int) (4 + (13 : Nat))).toNat).size = s.size := by rw [ByteArray.size_extract]; omega
      rw [rangedP, if_pos hb, if_neg (by rw [hz2]; omega), if_neg h11]
    rw [hr, if_pos (show (s.size : Int) < ((5 + 4 + 4 : Nat) : Int) + (4 : Nat) by omega), if_neg (show ¬ (0 : Int) ≤ -1 by omega), if_pos (show (s.size : Int) < 4 + (13 : Nat) by omega)]; rfl
theorem tail_port (s : ByteArray) (k n : Nat) (hk : k = 11) (hs5 : 5 ≤ s.size) (hm : mayP (fields k) ((n : Int) - 1) = true) : outG (decG s n (fields k) 5 (M.only k)) = tailS s k n := by
  subst hk
  have hn : n = 3 := by simp [fields, fsPort, mayP] at hm; omega
  subst hn
  have hb2 : beTo s 5 2 = bt' s 5 * 256 + bt' s 6 := by simp [beTo]
  have l5 := bt'_lt s 5
  have l6 := bt'_lt s 6
  rw [show fields 11 = [⟨2, 76, 1, 1, 65535, 0⟩] from rfl, decG_num (z := 2) (by decide) (by decide), hb2, outG_ite]
  unfold tailS
  have hb : isBlock ((11 : Nat) : Int) = false := by decide
  by_cases hs : 7 ≤ s.size
  · have e0 : (min (s.size : Int) (4 + (3 : Nat))).toNat = 7 := by omega
    have hsz : (s.extract 0 7).size = 7 := by rw [ByteArray.size_extract]; omega
    have hr : rangedP (11 : Nat) (s.extract 0 7) = if (bt' s 5 : Int) = 0 then (if (bt' s 6 : Int) = 0 then 5 else -1) else -1 := by
      rw [rangedP, if_neg (by rw [hb]; simp), if_pos (by decide), if_pos (by omega), bt_extract s 0 7 5 (by omega) (by omega), bt_extract s 0 7 6 (by omega) (by omega)]
    rw [e0, hr, if_neg (show ¬ (s.size : Int) < (5 : Nat) + (2 : Nat) by omega)]
    by_cases h5 : bt' s 5 = 0 ∧ bt' s 6 = 0
    · rw [if_neg (show ¬ okNum 1 65535 ((bt' s 5 * 256 + bt' s 6 : Nat) : Int) = true by simp [okNum]; omega), if_pos (show (bt' s 5 : Int) = 0 by omega), if_pos (show (bt' s 6 : Int) = 0 by omega), if_pos (show (0 : Int) ≤ 5 by omega)]; rfl
    · have e1 : (if (bt' s 5 : Int) = 0 then (if (bt' s 6 : Int) = 0 then (5 : Int) else -1) else -1) = -1 := by
        by_cases h : (bt' s 5 : Int) = 0
        · rw [if_pos h, if_neg (by omega)]
        · rw [if_neg h]
      have ht : takenP (11 : Nat) (s.extract 5 (4 + ((3 : Nat) : Int)).toNat) = ⟨11, bt' s 5 * 256 + bt' s 6, 0, 0, 0, 0, ⟨#[]⟩, ⟨#[]⟩⟩ := by
        show takenP (11 : Nat) (s.extract 5 7) = _
        rw [takenP, if_neg (by decide), if_neg (by decide), if_neg (by decide), if_neg (by decide), if_pos (by decide), bt_extract s 5 7 0 (by omega) (by omega), bt_extract s 5 7 1 (by omega) (by omega)]
        rfl
      rw [e1, if_neg (show ¬ (0 : Int) ≤ -1 by omega), if_neg (show ¬ (s.size : Int) < 4 + (3 : Nat) by omega), if_pos (show okNum 1 65535 ((bt' s 5 * 256 + bt' s 6 : Nat) : Int) = true by simp [okNum]; omega), ht]
      have e2 : ((bt' s 5 * 256 + bt' s 6 : Nat) : Int) = (bt' s 5 : Int) * 256 + bt' s 6 := by omega
      rw [e2]; rfl
  · have hr : rangedP (11 : Nat) (s.extract 0 (min (s.size : Int) (4 + (3 : Nat))).toNat) = -1 := by
      have hz2 : (s.extract 0 (min (s.size : Int) (4 + (3 : Nat))).toNat).size = s.size := by rw [ByteArray.size_extract]; omega
      rw [rangedP, if_neg (by rw [hb]; simp), if_pos (by decide), if_neg (by rw [hz2]; omega)]
    rw [hr, if_pos (show (s.size : Int) < (5 : Nat) + (2 : Nat) by omega), if_neg (show ¬ (0 : Int) ≤ -1 by omega), if_pos (show (s.size : Int) < 4 + (3 : Nat) by omega)]; rfl
theorem tail_eq (s : ByteArray) (k n : Nat) (hk : 2 ≤ k ∧ k ≤ 20) (hs5 : 5 ≤ s.size) (hm : mayP (fields k) ((n : Int) - 1) = true) : outG (decG s n (fields k) 5 (M.only k)) = tailS s k n := by
  rcases kinds20 k hk with h | h | h | h | h | h | h | h | h
  · exact tail_idx s k n h hm
  · exact tail_bits s k n h hm
  · exact tail_block s k n h hs5 hm
  · exact tail_piece s k n h hm
  · exact tail_port s k n h hs5 hm
  · exact tail_ext s k n h hm
  · exact tail_ask s k n h hm
  · exact tail_hash s k n h hm
  · exact tail_none s k n h hs5 hm
/-- The two Decodes answer the same. -/
theorem decW_eq (s : ByteArray) : decW s = decS s := by
  unfold decW decS
  by_cases h0 : (65536 : Int) < s.size
  · rw [if_pos h0, if_pos h0]; rfl
  rw [if_neg h0, if_neg h0, rd4_pad]
  have l0 := bt'_lt s 0
  have l1 := bt'_lt s 1
  have l2 := bt'_lt s 2
  have l3 := bt'_lt s 3
  have hrd := rd4_def s
  have hg := good3_iff s
  have o0 := bt_out s 0
  have o1 := bt_out s 1
  have o2 := bt_out s 2
  have o3 := bt_out s 3
  by_cases h4 : (s.size : Int) < 4
  · by_cases hg3 : good3 s = true
    · obtain ⟨g0, g1, g2⟩ := hg.1 hg3
      rw [if_pos hg3, if_pos h4, if_pos h4, if_neg (by omega)]; rfl
    · have hbig : (4200 : Int) < rd4 s := Classical.byContradiction fun hc => hg3 (hg.2 ⟨fun _ => by omega, fun _ => by omega, fun _ => by omega⟩)
      simp only [if_neg hg3, if_pos hbig, if_pos h4]; rfl
  · by_cases hg3 : good3 s = true
    · obtain ⟨g0, g1, g2⟩ := hg.1 hg3
      have hl : lenW s = rd4 s := by unfold lenW; omega
      rw [if_pos hg3, if_neg h4, if_neg h4, hl]
      by_cases hA : (4200 : Int) < rd4 s
      · rw [if_pos hA, if_pos hA]; rfl
      rw [if_neg hA, if_neg hA]
      by_cases hB : (rd4 s : Int) = 0
      · rw [if_pos hB, if_pos hB]; rfl
      rw [if_neg hB, if_neg hB]
      by_cases hC : (s.size : Int) < 5
      · rw [if_pos hC, if_pos hC]; rfl
      rw [if_neg hC, if_neg hC]
      by_cases hD : (kindP (bt' s 4) : Int) = 0
      · rw [if_pos hD, if_pos hD]; rfl
      rw [if_neg hD, if_neg hD]
      by_cases hE : mayP (fields (kindP (bt' s 4))) ((rd4 s : Int) - 1) = true
      · rw [if_pos hE, if_pos hE, tail_eq s _ _ (kindP_rng _ hD) (by omega) hE]; rfl
      · rw [if_neg hE, if_neg hE]; rfl
    · have hbig : (4200 : Int) < rd4 s := Classical.byContradiction fun hc => hg3 (hg.2 ⟨fun _ => by omega, fun _ => by omega, fun _ => by omega⟩)
      simp only [if_neg hg3, if_pos hbig, if_neg h4]; rfl
theorem decode_p (s : ByteArray) (w : World) : Calls Try.prog 20 #[.string s] w fun e w' => e = .returned (.tuple #[.agg (decS s).1.cells, .int .i64 (decS s).2.1, .int .i64 (decS s).2.2.1, .int .i64 (decS s).2.2.2]) ∧ S w' [Old w no] := by
  rw [← decW_eq]; exact decode_w s w
end Go.Proofs.Ytcjmdkklbbollaa
