import Derived.Test.YtcjmdkklbbollaaAI
set_option linter.unusedSimpArgs false
set_option linter.unusedVariables false
namespace Go.Proofs.Ytcjmdkklbbollaa
open Go.RowKit

theorem eq_of_bl {a b : ByteArray} (h : a.data.toList = b.data.toList) : a = b := ByteArray.ext (Array.toList_inj.1 h)
theorem be4_list (x : Int) : be 4 x = [beByte x 3, beByte x 2, beByte x 1, beByte x 0] := rfl
theorem beByte_nat (x : Int) (k : Nat) : (beByte x k).toNat = x.toNat / 2 ^ (8 * k) % 256 := by
  unfold beByte
  rw [UInt8.toNat_ofNat']
  exact Nat.mod_mod _ _
abbrev b4 (x : Int) : ByteArray := ⟨(be 4 x).toArray⟩
theorem b4_size (x : Int) : (b4 x).size = 4 := rfl
theorem rd4_b4 (x : Int) (h0 : 0 ≤ x) (h1 : x ≤ 4294967295) (t : ByteArray) : (rd4 (b4 x ++ t) : Int) = x := by
  have e : ∀ i, i < 4 → bt' (b4 x ++ t) i = x.toNat / 2 ^ (8 * (3 - i)) % 256 := fun i hi => by
    rw [bt_append_l _ _ _ (by rw [b4_size]; exact hi)]
    rcases (by omega : i = 0 ∨ i = 1 ∨ i = 2 ∨ i = 3) with rfl | rfl | rfl | rfl <;> exact beByte_nat x _
  rw [rd4_def, e 0 (by omega), e 1 (by omega), e 2 (by omega), e 3 (by omega)]
  obtain ⟨y, rfl⟩ := Int.eq_ofNat_of_zero_le h0
  simp only [Int.toNat_natCast]
  have p0 : 2 ^ (8 * (3 - 0)) = 16777216 := by decide
  have p1 : 2 ^ (8 * (3 - 1)) = 65536 := by decide
  have p2 : 2 ^ (8 * (3 - 2)) = 256 := by decide
  have p3 : 2 ^ (8 * (3 - 3)) = 1 := by decide
  rw [p0, p1, p2, p3]
  omega
theorem app_nil (a : ByteArray) : a ++ ⟨#[]⟩ = a := eq_of_bl (by simp)
theorem rd4_b4' (x : Int) (h0 : 0 ≤ x) (h1 : x ≤ 4294967295) : (rd4 (b4 x) : Int) = x := by
  have := rd4_b4 x h0 h1 ⟨#[]⟩
  rwa [app_nil] at this
theorem skip (a b : ByteArray) (n m : Nat) (hn : a.size = n) (hm : n + b.size = m) : (a ++ b).extract n m = b := by
  apply eq_of_bl
  rw [extract_list, bl_append, List.take_of_length_le (by simp; omega), List.drop_append_of_le_length (by simp; omega), List.drop_eq_nil_of_le (by simp; omega), List.nil_append]
theorem app_assoc (a b c : ByteArray) : a ++ b ++ c = a ++ (b ++ c) := eq_of_bl (by simp)
theorem first (a b : ByteArray) (n : Nat) (hn : a.size = n) : (a ++ b).extract 0 n = a := by
  apply eq_of_bl
  rw [extract_list, bl_append, List.take_append_of_le_length (by simp; omega), List.take_of_length_le (by simp; omega)]; rfl
/-- What stands behind the number, read again: the message; and so many bytes may stand there. -/
theorem taken_body {k i1 i2 i3 i4 i5 : Int} {root data : ByteArray} (h : VForm k i1 i2 i3 i4 i5 root data) (hk : ¬ k = 1) :
    takenP k (bodyS k i1 i2 i3 i4 i5 root data) = ⟨k, i1, i2, i3, i4, i5, root, data⟩ ∧ mayP (fields k.toNat) (bodyS k i1 i2 i3 i4 i5 root data).size = true := by
  have hE : E0 = ⟨#[]⟩ := rfl
  rcases h with ⟨hp, rfl, rfl, rfl, rfl, rfl, rfl, rfl⟩ | ⟨hc, g1, rfl, rfl, rfl, rfl, rfl, rfl⟩ | ⟨rfl, gd, rfl, rfl, rfl, rfl, rfl, rfl⟩ | ⟨hc, g1, g2, g3, rfl, rfl, rfl, rfl⟩ | ⟨rfl, g1, g2, gd, rfl, rfl, rfl, rfl⟩ | ⟨rfl, g1, rfl, rfl, rfl, rfl, rfl, rfl⟩ | ⟨rfl, g1, gd, rfl, rfl, rfl, rfl, rfl⟩ | ⟨hc, gr, g4, g1, g3, g5, rfl, rfl⟩ | ⟨rfl, gr, g4, g1, g3, g5, gd1, gd2, gd3, rfl⟩
  · unfold isPlain at hp
    rcases (by omega : k = 2 ∨ k = 3 ∨ k = 4 ∨ k = 5 ∨ k = 13 ∨ k = 14) with rfl | rfl | rfl | rfl | rfl | rfl <;> exact ⟨rfl, by decide⟩
  · have hi : isIdx k = true := by rcases hc with rfl | rfl | rfl <;> decide
    have hb : bodyS k i1 0 0 0 0 E0 E0 = b4 i1 := by rw [bodyS, if_pos hi]
    rw [hb, takenP, if_pos hi, rd4_b4' i1 g1.1 g1.2]
    refine ⟨rfl, ?_⟩
    have hf : fields k.toNat = fsOne := by rcases hc with rfl | rfl | rfl <;> rfl
    rw [hf, b4_size]; decide
  · refine ⟨rfl, ?_⟩
    have hb : bodyS 7 0 0 0 0 0 E0 data = data := rfl
    rw [hb]
    simp [fields, fsBits, FRest, mayP, okRest]; omega
  · have hi : isIdx k = false := by rcases hc with rfl | rfl | rfl <;> decide
    have hbk : isBlock k = true := by rcases hc with rfl | rfl | rfl <;> decide
    have h7 : ¬ k = 7 := by omega
    have hb : bodyS k i1 i2 i3 0 0 E0 E0 = b4 i1 ++ b4 i2 ++ b4 i3 := by rw [bodyS, if_neg (by rw [hi]; simp), if_neg h7, if_pos hbk]
    have hsz : (b4 i1 ++ b4 i2 ++ b4 i3).size = 12 := by simp only [ByteArray.size_append, b4_size]
    rw [hb, takenP, if_neg (by rw [hi]; simp), if_neg h7, if_pos hbk, hsz, skip (b4 i1 ++ b4 i2) (b4 i3) 8 12 (by simp only [ByteArray.size_append, b4_size]) (by rw [b4_size]), app_assoc, skip (b4 i1) _ 4 12 rfl (by simp only [ByteArray.size_append, b4_size]), rd4_b4 i1 g1.1 g1.2, rd4_b4 i2 g2.1 g2.2, rd4_b4' i3 (by omega) (by omega)]
    refine ⟨rfl, ?_⟩
    have hf : fields k.toNat = fsBlock := by rcases hc with rfl | rfl | rfl <;> rfl
    rw [hf]; decide
  · have hb : bodyS 9 i1 i2 0 0 0 E0 data = b4 i1 ++ b4 i2 ++ data := rfl
    have hsz : (b4 i1 ++ b4 i2 ++ data).size = 8 + data.size := by simp only [ByteArray.size_append, b4_size]
    rw [hb, takenP, if_neg (by decide), if_neg (by decide), if_neg (by decide), if_pos (by decide), hsz, skip (b4 i1 ++ b4 i2) data 8 _ (by simp only [ByteArray.size_append, b4_size]) rfl, app_assoc, skip (b4 i1) _ 4 _ rfl (by simp only [ByteArray.size_append, b4_size]; omega), rd4_b4 i1 g1.1 g1.2, rd4_b4 i2 g2.1 g2.2]
    refine ⟨rfl, ?_⟩
    simp [fields, fsPiece, F4, FRest, mayP, okRest]; omega
  · have hb : bodyS 11 i1 0 0 0 0 E0 E0 = (b4 i1).extract 2 4 := rfl
    have hsz : ((b4 i1).extract 2 4).size = 2 := by rw [ByteArray.size_extract]; rfl
    have e0 := beByte_nat i1 1
    have e1 := beByte_nat i1 0
    have hv : ((bt' ((b4 i1).extract 2 4) 0 : Int) * 256 + bt' ((b4 i1).extract 2 4) 1) = i1 := by
      rw [bt_extract _ 2 4 0 (Nat.le_refl _) (by omega), bt_extract _ 2 4 1 (Nat.le_refl _) (by omega)]
      have f0 : bt' (b4 i1) (2 + 0) = (beByte i1 1).toNat := rfl
      have f1 : bt' (b4 i1) (2 + 1) = (beByte i1 0).toNat := rfl
      rw [f0, f1, e0, e1]
      have p1 : 2 ^ (8 * 1) = 256 := by decide
      have p0 : 2 ^ (8 * 0) = 1 := by decide
      rw [p1, p0]
      omega
    rw [hb, takenP, if_neg (by decide), if_neg (by decide), if_neg (by decide), if_neg (by decide), if_pos (by decide), hv]
    refine ⟨rfl, ?_⟩
    rw [hsz]; decide
  · have hb : bodyS 17 i1 0 0 0 0 E0 data = (b4 i1).extract 3 4 ++ data := rfl
    have hsz : ((b4 i1).extract 3 4).size = 1 := by rw [ByteArray.size_extract]; rfl
    have hsz2 : ((b4 i1).extract 3 4 ++ data).size = 1 + data.size := by rw [ByteArray.size_append, hsz]
    have hv : (bt' ((b4 i1).extract 3 4 ++ data) 0 : Int) = i1 := by
      rw [bt_append_l _ _ _ (by rw [hsz]; omega), bt_extract _ 3 4 0 (Nat.le_refl _) (by omega)]
      have f0 : bt' (b4 i1) (3 + 0) = (beByte i1 0).toNat := rfl
      have p0 : 2 ^ (8 * 0) = 1 := by decide
      rw [f0, beByte_nat, p0]
      omega
    rw [hb, takenP, if_neg (by decide), if_neg (by decide), if_neg (by decide), if_neg (by decide), if_neg (by decide), if_pos (by decide), hv, hsz2, skip _ data 1 _ hsz rfl]
    refine ⟨rfl, ?_⟩
    simp [fields, fsExt, FRest, mayP, okRest]; omega
  · have hi : isIdx k = false := by rcases hc with rfl | rfl <;> decide
    have hbk : isBlock k = false := by rcases hc with rfl | rfl <;> decide
    have hh : isHash k = true := by rcases hc with rfl | rfl <;> decide
    have hb : bodyS k i1 0 i3 i4 i5 root E0 = root ++ b4 i4 ++ b4 i1 ++ b4 i3 ++ b4 i5 := by
      rw [bodyS, if_neg (by rw [hi]; simp), if_neg (by omega), if_neg (by rw [hbk]; simp), if_neg (by omega), if_neg (by omega), if_neg (by omega), if_pos hh, hE, app_nil]
    have hr : root.size = 32 := by omega
    have hsz : (root ++ b4 i4 ++ b4 i1 ++ b4 i3 ++ b4 i5).size = 48 := by simp only [ByteArray.size_append, b4_size, hr]
    have t1 : (root ++ b4 i4 ++ b4 i1 ++ b4 i3 ++ b4 i5).extract 36 48 = b4 i1 ++ (b4 i3 ++ b4 i5) := by
      rw [app_assoc (root ++ b4 i4 ++ b4 i1), app_assoc (root ++ b4 i4)]; exact skip _ _ _ _ (by simp only [ByteArray.size_append, b4_size, hr]) (by simp only [ByteArray.size_append, b4_size])
    have t2 : (root ++ b4 i4 ++ b4 i1 ++ b4 i3 ++ b4 i5).extract 40 48 = b4 i3 ++ b4 i5 := by
      rw [app_assoc (root ++ b4 i4 ++ b4 i1)]; exact skip _ _ _ _ (by simp only [ByteArray.size_append, b4_size, hr]) (by simp only [ByteArray.size_append, b4_size])
    have t3 : (root ++ b4 i4 ++ b4 i1 ++ b4 i3 ++ b4 i5).extract 32 48 = b4 i4 ++ (b4 i1 ++ (b4 i3 ++ b4 i5)) := by
      rw [app_assoc (root ++ b4 i4 ++ b4 i1), app_assoc (root ++ b4 i4), app_assoc root]; exact skip _ _ _ _ hr (by simp only [ByteArray.size_append, b4_size])
    have t4 : (root ++ b4 i4 ++ b4 i1 ++ b4 i3 ++ b4 i5).extract 44 48 = b4 i5 := skip _ _ _ _ (by simp only [ByteArray.size_append, b4_size, hr]) (by rw [b4_size])
    have t5 : (root ++ b4 i4 ++ b4 i1 ++ b4 i3 ++ b4 i5).extract 0 32 = root := by
      rw [app_assoc (root ++ b4 i4 ++ b4 i1), app_assoc (root ++ b4 i4), app_assoc root]; exact first _ _ _ hr
    have t6 : (root ++ b4 i4 ++ b4 i1 ++ b4 i3 ++ b4 i5).extract 48 48 = E0 := eq_of_bl (by rw [extract_list, List.drop_eq_nil_of_le (by rw [List.length_take]; omega)]; rfl)
    rw [hb, takenP, if_neg (by rw [hi]; simp), if_neg (by omega), if_neg (by rw [hbk]; simp), if_neg (by omega), if_neg (by omega), if_neg (by omega), if_pos hh, hsz, t1, t2, t3, t4, t5, t6, rd4_b4 i1 g1.1 g1.2, rd4_b4 i3 g3.1 g3.2, rd4_b4 i4 g4.1 g4.2, rd4_b4' i5 g5.1 g5.2]
    refine ⟨rfl, ?_⟩
    have hf : fields k.toNat = fsAsk := by rcases hc with rfl | rfl <;> rfl
    rw [hf]; decide
  · have hb : bodyS 19 i1 0 i3 i4 i5 root data = root ++ b4 i4 ++ b4 i1 ++ b4 i3 ++ b4 i5 ++ data := rfl
    have hr : root.size = 32 := by omega
    have hsz : (root ++ b4 i4 ++ b4 i1 ++ b4 i3 ++ b4 i5 ++ data).size = 48 + data.size := by simp only [ByteArray.size_append, b4_size, hr]
    have t1 : (root ++ b4 i4 ++ b4 i1 ++ b4 i3 ++ b4 i5 ++ data).extract 36 (48 + data.size) = b4 i1 ++ (b4 i3 ++ (b4 i5 ++ data)) := by
      rw [app_assoc (root ++ b4 i4 ++ b4 i1 ++ b4 i3), app_assoc (root ++ b4 i4 ++ b4 i1), app_assoc (root ++ b4 i4)]; exact skip _ _ _ _ (by simp only [ByteArray.size_append, b4_size, hr]) (by simp only [ByteArray.size_append, b4_size]; omega)
    have t2 : (root ++ b4 i4 ++ b4 i1 ++ b4 i3 ++ b4 i5 ++ data).extract 40 (48 + data.size) = b4 i3 ++ (b4 i5 ++ data) := by
      rw [app_assoc (root ++ b4 i4 ++ b4 i1 ++ b4 i3), app_assoc (root ++ b4 i4 ++ b4 i1)]; exact skip _ _ _ _ (by simp only [ByteArray.size_append, b4_size, hr]) (by simp only [ByteArray.size_append, b4_size]; omega)
    have t3 : (root ++ b4 i4 ++ b4 i1 ++ b4 i3 ++ b4 i5 ++ data).extract 32 (48 + data.size) = b4 i4 ++ (b4 i1 ++ (b4 i3 ++ (b4 i5 ++ data))) := by
      rw [app_assoc (root ++ b4 i4 ++ b4 i1 ++ b4 i3), app_assoc (root ++ b4 i4 ++ b4 i1), app_assoc (root ++ b4 i4), app_assoc root]; exact skip _ _ _ _ hr (by simp only [ByteArray.size_append, b4_size]; omega)
    have t4 : (root ++ b4 i4 ++ b4 i1 ++ b4 i3 ++ b4 i5 ++ data).extract 44 (48 + data.size) = b4 i5 ++ data := by
      rw [app_assoc (root ++ b4 i4 ++ b4 i1 ++ b4 i3)]; exact skip _ _ _ _ (by simp only [ByteArray.size_append, b4_size, hr]) (by simp only [ByteArray.size_append, b4_size]; omega)
    have t5 : (root ++ b4 i4 ++ b4 i1 ++ b4 i3 ++ b4 i5 ++ data).extract 0 32 = root := by
      rw [app_assoc (root ++ b4 i4 ++ b4 i1 ++ b4 i3), app_assoc (root ++ b4 i4 ++ b4 i1), app_assoc (root ++ b4 i4), app_assoc root]; exact first _ _ _ hr
    have t6 : (root ++ b4 i4 ++ b4 i1 ++ b4 i3 ++ b4 i5 ++ data).extract 48 (48 + data.size) = data := skip _ _ _ _ (by simp only [ByteArray.size_append, b4_size, hr]) rfl
    rw [hb, takenP, if_neg (by decide), if_neg (by decide), if_neg (by decide), if_neg (by decide), if_neg (by decide), if_neg (by decide), if_pos (by decide), hsz, t1, t2, t3, t4, t5, t6, rd4_b4 i1 g1.1 g1.2, rd4_b4 i3 g3.1 g3.2, rd4_b4 i4 g4.1 g4.2, rd4_b4 i5 g5.1 g5.2]
    refine ⟨rfl, ?_⟩
    simp [fields, fsHash, fsAsk, F4, FRoot, FRest, mayP, okRest]; omega
theorem bodyS_list {k i1 i2 i3 i4 i5 : Int} {root data : ByteArray} (h : VForm k i1 i2 i3 i4 i5 root data) (hk : ¬ k = 1) :
    (bodyS k i1 i2 i3 i4 i5 root data).data.toList = (fields k.toNat).flatMap (encF · ⟨k, i1, i2, i3, i4, i5, root, data⟩) := by
  rcases h with ⟨hp, rfl, rfl, rfl, rfl, rfl, rfl, rfl⟩ | ⟨hc, g1, rfl, rfl, rfl, rfl, rfl, rfl⟩ | ⟨rfl, gd, rfl, rfl, rfl, rfl, rfl, rfl⟩ | ⟨hc, g1, g2, g3, rfl, rfl, rfl, rfl⟩ | ⟨rfl, g1, g2, gd, rfl, rfl, rfl, rfl⟩ | ⟨rfl, g1, rfl, rfl, rfl, rfl, rfl, rfl⟩ | ⟨rfl, g1, gd, rfl, rfl, rfl, rfl, rfl⟩ | ⟨hc, gr, g4, g1, g3, g5, rfl, rfl⟩ | ⟨rfl, gr, g4, g1, g3, g5, gd1, gd2, gd3, rfl⟩
  · unfold isPlain at hp
    rcases (by omega : k = 2 ∨ k = 3 ∨ k = 4 ∨ k = 5 ∨ k = 13 ∨ k = 14) with rfl | rfl | rfl | rfl | rfl | rfl <;> rfl
  · rcases hc with rfl | rfl | rfl <;> rfl
  · show data.data.toList = data.data.toList ++ []
    simp
  · rcases hc with rfl | rfl | rfl
    all_goals
      show (b4 i1 ++ b4 i2 ++ b4 i3).data.toList = be 4 i1 ++ (be 4 i2 ++ (be 4 i3 ++ []))
      simp
  · show (b4 i1 ++ b4 i2 ++ data).data.toList = be 4 i1 ++ (be 4 i2 ++ (data.data.toList ++ []))
    simp
  · rfl
  · show ((b4 i1).extract 3 4 ++ data).data.toList = be 1 i1 ++ (data.data.toList ++ [])
    rw [bl_append, List.append_nil]; rfl
  · rcases hc with rfl | rfl
    all_goals
      show (root ++ b4 i4 ++ b4 i1 ++ b4 i3 ++ b4 i5 ++ E0).data.toList = root.data.toList ++ (be 4 i4 ++ (be 4 i1 ++ (be 4 i3 ++ (be 4 i5 ++ []))))
      simp [E0]
  · show (root ++ b4 i4 ++ b4 i1 ++ b4 i3 ++ b4 i5 ++ data).data.toList = root.data.toList ++ (be 4 i4 ++ (be 4 i1 ++ (be 4 i3 ++ (be 4 i5 ++ (data.data.toList ++ [])))))
    simp
theorem be4_small (n : Nat) (h : n < 65536) : be 4 n = [0, 0, UInt8.ofNat (n / 256 % 256), UInt8.ofNat (n % 256)] := by
  have e : ∀ k, beByte (n : Int) k = UInt8.ofNat (n / 2 ^ (8 * k) % 256) := fun k => rfl
  rw [be4_list, e, e, e, e]
  have p3 : 2 ^ (8 * 3) = 16777216 := by decide
  have p2 : 2 ^ (8 * 2) = 65536 := by decide
  have p1 : 2 ^ (8 * 1) = 256 := by decide
  have p0 : 2 ^ (8 * 0) = 1 := by decide
  rw [p3, p2, p1, p0, Nat.div_eq_of_lt (by omega), Nat.div_eq_of_lt h, Nat.div_one]; rfl
def encT (m : M) : ByteArray × Int := (⟨(encR m).1.toArray⟩, (encR m).2)
theorem vform_data {k i1 i2 i3 i4 i5 : Int} {root data : ByteArray} (h : VForm k i1 i2 i3 i4 i5 root data) : data.size ≤ 4096 := by
  have e0 : E0.size = 0 := rfl
  rcases h with h | h | h | h | h | h | h | h | h
  all_goals first | (have : data = E0 := by simp only [h]); (rw [this]; omega) | omega
theorem bodyS_most {k i1 i2 i3 i4 i5 : Int} {root data : ByteArray} (h : VForm k i1 i2 i3 i4 i5 root data) (hk : ¬ k = 1) : (bodyS k i1 i2 i3 i4 i5 root data).size ≤ 4199 := by
  obtain ⟨h1, h2⟩ := taken_body h hk
  have hr := vform_kind h
  generalize (bodyS k i1 i2 i3 i4 i5 root data).size = n at h2
  obtain ⟨j, rfl⟩ := Int.eq_ofNat_of_zero_le (show 0 ≤ k by omega)
  rw [Int.toNat_natCast] at h2
  rcases (by omega : j = 2 ∨ j = 3 ∨ j = 4 ∨ j = 5 ∨ j = 6 ∨ j = 7 ∨ j = 8 ∨ j = 9 ∨ j = 10 ∨ j = 11 ∨ j = 12 ∨ j = 13 ∨ j = 14 ∨ j = 15 ∨ j = 16 ∨ j = 17 ∨ j = 18 ∨ j = 19 ∨ j = 20) with rfl | rfl | rfl | rfl | rfl | rfl | rfl | rfl | rfl | rfl | rfl | rfl | rfl | rfl | rfl | rfl | rfl | rfl | rfl <;>
  · simp [mayP, fields, fsOne, fsBits, fsBlock, fsPiece, fsPort, fsExt, fsAsk, fsHash, F4, FLen, FRest, FRoot, okRest] at h2; omega
theorem encS_eq (k i1 i2 i3 i4 i5 : Int) (root data : ByteArray) : encS k i1 i2 i3 i4 i5 root data = encT ⟨k, i1, i2, i3, i4, i5, root, data⟩ := by
  unfold encS encT encR
  by_cases hv : validP ⟨k, i1, i2, i3, i4, i5, root, data⟩ = true
  · have hf := (validP_form k i1 i2 i3 i4 i5 root data).1 hv
    simp only [if_pos hv]
    by_cases hk : k = 1
    · subst hk; rfl
    · rw [if_neg hk]
      have hl := bodyS_list hf hk
      have hm := bodyS_most hf hk
      have hr := vform_kind hf
      have hbl : (encBody ⟨k, i1, i2, i3, i4, i5, root, data⟩) = UInt8.ofNat (numR k).toNat :: (bodyS k i1 i2 i3 i4 i5 root data).data.toList := by
        rw [hl, encBody, numR, if_pos (by omega)]
      have hlen : (encBody ⟨k, i1, i2, i3, i4, i5, root, data⟩).length = ((⟨[UInt8.ofNat (numR k).toNat].toArray⟩ : ByteArray) ++ bodyS k i1 i2 i3 i4 i5 root data).size := by
        rw [hbl, ByteArray.size_append, List.length_cons]
        have : (⟨[UInt8.ofNat (numR k).toNat].toArray⟩ : ByteArray).size = 1 := rfl
        rw [this]; simp; omega
      have hsz : ((⟨[UInt8.ofNat (numR k).toNat].toArray⟩ : ByteArray) ++ bodyS k i1 i2 i3 i4 i5 root data).size < 65536 := by
        rw [ByteArray.size_append]
        have : (⟨[UInt8.ofNat (numR k).toNat].toArray⟩ : ByteArray).size = 1 := rfl
        omega
      refine congrArg (fun x => (x, (0 : Int))) (eq_of_bl ?_)
      rw [encP, if_neg (show ¬ (⟨k, i1, i2, i3, i4, i5, root, data⟩ : M).kind = 1 from hk), hlen, bl_append, be4_small _ hsz, bl_append, hbl]
      rfl
  · simp only [if_neg hv]
theorem encode_r' (m : M) (hd : m.data.size ≤ 5000) (w : World) : Calls Try.prog 19 #[.agg m.cells] w fun e w' => e = .returned (.tuple #[.string (encT m).1, .int .i64 (encT m).2]) ∧ S w' [Old w no] := by
  obtain ⟨k, i1, i2, i3, i4, i5, root, data⟩ := m
  rw [← encS_eq]; exact encode_r k i1 i2 i3 i4 i5 root data hd w
theorem encode_p' (m : M) (w : World) : Calls Try.prog 18 #[.agg m.cells] w fun e w' => e = .returned (.tuple #[.string (encT m).1, .int .i64 (encT m).2]) ∧ S w' [Old w no] :=
  (encode_any m w).mono fun _ _ h => ⟨h.1, S.of_below h.2⟩
theorem numb_kind : ∀ k : Fin 21, 2 ≤ (k : Nat) → kindP (numb k) = k ∧ 0 ≤ numb k ∧ numb k ≤ 255 := by decide
/-- Decode(Encode(m)) is m, all used, whatever stands behind. -/
theorem back (m : M) (s : ByteArray) (hv : (encT m).2 = 0) (hs : s.size ≤ 61000) : decS ((encT m).1 ++ s) = (m, ((encT m).1.size : Int), -1, 0) ∧ (encT m).1.size ≤ 4204 := by
  obtain ⟨k, i1, i2, i3, i4, i5, root, data⟩ := m
  rw [← encS_eq] at hv ⊢
  unfold encS at hv ⊢
  by_cases hva : validP ⟨k, i1, i2, i3, i4, i5, root, data⟩ = true
  · have hf := (validP_form k i1 i2 i3 i4 i5 root data).1 hva
    have hkr := vform_kind hf
    simp only [if_pos hva]
    by_cases hk : k = 1
    · subst hk
      simp only [if_true]
      have hE : VForm 1 i1 i2 i3 i4 i5 root data := hf
      have hall : i1 = 0 ∧ i2 = 0 ∧ i3 = 0 ∧ i4 = 0 ∧ i5 = 0 ∧ root = E0 ∧ data = E0 := by
        rcases hE with h | h | h | h | h | h | h | h | h
        · exact h.2
        all_goals omega
      obtain ⟨rfl, rfl, rfl, rfl, rfl, rfl, rfl⟩ := hall
      have hr : (rd4 (b4 0 ++ s) : Int) = 0 := rd4_b4 0 (by omega) (by omega) s
      have hsz : (b4 0 ++ s).size = 4 + s.size := by rw [ByteArray.size_append, b4_size]
      refine ⟨?_, by rw [b4_size]; omega⟩
      show decS (b4 0 ++ s) = _
      unfold decS
      rw [if_neg (by omega), if_neg (by omega), if_neg (by omega), if_pos hr]; rfl
    · rw [if_neg hk]
      have hmo := bodyS_most hf hk
      obtain ⟨ht, hmay⟩ := taken_body hf hk
      generalize hB : bodyS k i1 i2 i3 i4 i5 root data = B at *
      generalize hn1 : (⟨[UInt8.ofNat (numR k).toNat].toArray⟩ : ByteArray) = N1
      have hN1 : N1.size = 1 := by rw [← hn1]; rfl
      have hNB : (N1 ++ B).size = 1 + B.size := by rw [ByteArray.size_append, hN1]
      have hbnum : bt' N1 0 = (numR k).toNat := by
        have hnr := numR_le k hk hkr
        rw [← hn1]
        show (UInt8.ofNat (numR k).toNat).toNat = _
        rw [UInt8.toNat_ofNat']; omega
      obtain ⟨j, rfl⟩ := Int.eq_ofNat_of_zero_le (show 0 ≤ k by omega)
      have hnum : numR (j : Int) = numb j := by rw [numR, if_pos (by omega), Int.toNat_natCast]
      have hkb : kindP (numb j) = j ∧ 0 ≤ numb j ∧ numb j ≤ 255 := numb_kind ⟨j, by omega⟩ (by show 2 ≤ j; omega)
      have hL : ((1 + B.size : Nat) : Int) = ((N1 ++ B).size : Int) := by rw [hNB]
      show decS (b4 ((N1 ++ B).size : Int) ++ (N1 ++ B) ++ s) = _ ∧ (b4 ((N1 ++ B).size : Int) ++ (N1 ++ B)).size ≤ 4204
      generalize hX : b4 ((N1 ++ B).size : Int) ++ (N1 ++ B) ++ s = X
      have hXs : X.size = 5 + B.size + s.size := by rw [← hX, ByteArray.size_append, ByteArray.size_append, b4_size, hNB]; omega
      have hrd : (rd4 X : Int) = 1 + B.size := by
        rw [← hX, app_assoc, rd4_b4 _ (by omega) (by omega), hNB]; omega
      have hX4 : bt' X 4 = (numb j).toNat := by
        rw [← hX, app_assoc, app_assoc, bt_append_r _ _ _ (by rw [b4_size]; omega), b4_size, bt_append_l _ _ _ (by rw [hN1]; omega), hbnum, hnum]
      have hX4' : ((bt' X 4 : Nat) : Int) = numb j := by rw [hX4]; omega
      have hbody : X.extract 5 (5 + B.size) = B := by
        rw [← hX]
        have e1 : b4 ((N1 ++ B).size : Int) ++ (N1 ++ B) ++ s = (b4 ((N1 ++ B).size : Int) ++ N1) ++ (B ++ s) := by rw [app_assoc, app_assoc, app_assoc]
        rw [e1]
        apply eq_of_bl
        have hh : (b4 ((N1 ++ B).size : Int) ++ N1).data.toList.length = 5 := by
          have : (b4 ((N1 ++ B).size : Int) ++ N1).size = 5 := by rw [ByteArray.size_append, b4_size, hN1]
          rw [Array.length_toList]; exact this
        rw [extract_list, bl_append (b4 ((N1 ++ B).size : Int) ++ N1) (B ++ s), bl_append B s, List.take_append, List.drop_append, hh, List.take_of_length_le (by omega), List.drop_eq_nil_of_le (by omega), List.nil_append, hh, Nat.sub_self, List.drop_zero, show 5 + B.size - 5 = B.size from by omega, List.take_append_of_le_length (by simp), List.take_of_length_le (by simp)]
      have hmay' : mayP (fields j) ((rd4 X : Int) - 1) = true := by rw [hrd, show (1 + (B.size : Int)) - 1 = B.size from by omega]; exact hmay
      have hsz5 : (b4 ((N1 ++ B).size : Int) ++ (N1 ++ B)).size = 5 + B.size := by rw [ByteArray.size_append, b4_size, hNB]; omega
      refine ⟨?_, by rw [hsz5]; omega⟩
      rw [hsz5, ← decW_eq]
      have hrl : decS X = tailS X j (rd4 X) := by
        unfold decS
        rw [if_neg (by omega), if_neg (by omega), if_neg (by omega), if_neg (by omega), if_neg (by omega), hX4', hkb.1, if_neg (by omega), if_pos hmay']
        rfl
      rw [decW_eq, hrl]
      have hrg : rangedP j (X.extract 0 (min (X.size : Int) (4 + (rd4 X : Nat))).toNat) = -1 := by
        have hmin : (min (X.size : Int) (4 + (rd4 X : Nat))).toNat = 5 + B.size := by omega
        rw [hmin]
        have hn : rd4 X = 1 + B.size := by omega
        have hza : (X.extract 0 (5 + B.size)).size = 5 + B.size := by rw [ByteArray.size_extract]; omega
        by_cases hbk : isBlock j = true
        · have hm12 := may_sizes j (by omega) (by omega) _ hmay' B.size (by omega)
          have h12 := hm12.2.1 hbk
          have hr13 : (rd4 ((X.extract 0 (5 + B.size)).extract 13 17) : Int) = i3 := by
            have e2 : (X.extract 0 (5 + B.size)).extract 13 17 = B.extract 8 12 := by
              rw [ext_ext X 0 _ 13 17 (by omega) (by omega), ← hbody, ext_ext X 5 _ 8 12 (by omega) (by omega)]
            rw [e2]
            have hi : isIdx (j : Int) = false := by
              rcases (by have hq : ((j : Int) = 8 ∨ (j : Int) = 10 ∨ (j : Int) = 15) := (by simpa [isBlock, one3] using hbk); omega : (j = 8 ∨ j = 10 ∨ j = 15)) with rfl | rfl | rfl <;> decide
            have h7 : ¬ (j : Int) = 7 := by
              rcases (by have hq : ((j : Int) = 8 ∨ (j : Int) = 10 ∨ (j : Int) = 15) := (by simpa [isBlock, one3] using hbk); omega : (j = 8 ∨ j = 10 ∨ j = 15)) with h | h | h <;> omega
            rw [takenP, if_neg (by rw [hi]; simp), if_neg h7, if_pos hbk] at ht
            have h3 := congrArg M.i3 ht
            simp only at h3
            have hB12 : B.size = 12 := by
              have := hmay
              have hf3 : fields ((j : Int)).toNat = fsBlock := by
                rcases (by have hq : ((j : Int) = 8 ∨ (j : Int) = 10 ∨ (j : Int) = 15) := (by simpa [isBlock, one3] using hbk); omega : (j = 8 ∨ j = 10 ∨ j = 15)) with rfl | rfl | rfl <;> rfl
              rw [hf3] at this
              simp [fsBlock, F4, FLen, mayP] at this; omega
            rw [hB12] at h3; exact h3
          have hi3 : 1 ≤ i3 ∧ i3 ≤ 1024 := by
            have hjj := (by have hq : ((j : Int) = 8 ∨ (j : Int) = 10 ∨ (j : Int) = 15) := (by simpa [isBlock, one3] using hbk); omega : (j = 8 ∨ j = 10 ∨ j = 15))
            rcases hf with h | h | h | h | h | h | h | h | h
            · have := h.1; unfold isPlain at this; omega
            all_goals omega
          rw [rangedP, if_pos hbk, if_pos (by omega), hr13, if_neg (by omega), if_neg (by omega)]
        · have hbk' : isBlock j = false := by simpa using hbk
          by_cases h11 : j = 11
          · subst h11
            have hi1 : 1 ≤ i1 ∧ i1 ≤ 65535 := by
              rcases hf with h | h | h | h | h | h | h | h | h
              · have := h.1; unfold isPlain at this; omega
              all_goals omega
            have h2b : 2 ≤ B.size := (may_sizes 11 (by omega) (by omega) _ hmay' B.size (by omega)).2.2.2.1 rfl
            have e5 : bt' (X.extract 0 (5 + B.size)) 5 = bt' B 0 := by
              rw [bt_extract X 0 _ 5 (by omega) (by omega), ← hbody, bt_extract X 5 _ 0 (by omega) (by omega)]
            have e6 : bt' (X.extract 0 (5 + B.size)) 6 = bt' B 1 := by
              rw [bt_extract X 0 _ 6 (by omega) (by omega), ← hbody, bt_extract X 5 _ 1 (by omega) (by omega)]
            have h1 := congrArg M.i1 ht
            rw [takenP, if_neg (by decide), if_neg (by decide), if_neg (by decide), if_neg (by decide), if_pos (by decide)] at h1
            simp only at h1
            rw [rangedP, if_neg (by decide), if_pos (by decide), if_pos (by omega), e5, e6]
            by_cases hz : (bt' B 0 : Int) = 0
            · rw [if_pos hz, if_neg (by omega)]
            · rw [if_neg hz]
          · exact rangedP_none hbk' h11 _
      unfold tailS
      rw [hrg, if_neg (by omega), if_neg (by omega)]
      have hend : (4 + (rd4 X : Int)).toNat = 5 + B.size := by omega
      rw [hend, hbody, ht]
      congr 2
      omega
  · simp only [if_neg hva] at hv
    exact absurd hv (by decide)
end Go.Proofs.Ytcjmdkklbbollaa
