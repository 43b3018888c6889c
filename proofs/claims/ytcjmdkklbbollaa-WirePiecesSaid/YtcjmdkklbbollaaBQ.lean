import Derived.Test.YtcjmdkklbbollaaBG
set_option linter.unusedSimpArgs false
set_option linter.unusedVariables false
namespace Go.Proofs.Ytcjmdkklbbollaa
open Go.RowKit

/-- Of a long text Decode looks at the first 4204 bytes alone. -/
theorem decS_cut (s : ByteArray) (hs : s.size ≤ 65536) (h : 4204 ≤ s.size) : decS (s.extract 0 4204) = decS s := by
  have hq : (s.extract 0 4204).size = 4204 := size_pre s 4204 h
  have hrd := rd4_pre s 4204 h (by omega)
  have hb4 : bt' (s.extract 0 4204) 4 = bt' s 4 := by rw [bt_pre s 4204 4 h, if_pos (by omega)]
  rw [decS_less _ (by rw [hq]; omega), decS_less s hs, hrd, hq]
  by_cases hb : (4200 : Int) < rd4 s
  · rw [if_pos hb, if_pos hb]
  rw [if_neg hb, if_neg hb, if_neg (show ¬ ((4204 : Nat) : Int) < 4 from by omega), if_neg (show ¬ (s.size : Int) < 4 from by omega)]
  by_cases h0 : (rd4 s : Int) = 0
  · rw [if_pos h0, if_pos h0]
  rw [if_neg h0, if_neg h0, if_neg (show ¬ ((4204 : Nat) : Int) < 5 from by omega), if_neg (show ¬ (s.size : Int) < 5 from by omega)]
  unfold restS
  rw [hb4, hrd]
  by_cases hk : (kindP (bt' s 4) : Int) = 0
  · rw [if_pos hk, if_pos hk]
  rw [if_neg hk, if_neg hk]
  by_cases hm : mayP (fields (kindP (bt' s 4))) ((rd4 s : Int) - 1) = true
  · rw [if_pos hm, if_pos hm]
    unfold tailS
    have e1 : (min ((s.extract 0 4204).size : Int) (4 + rd4 s)).toNat = 4 + rd4 s := by rw [hq]; omega
    have e2 : (min (s.size : Int) (4 + rd4 s)).toNat = 4 + rd4 s := by omega
    have x1 : (s.extract 0 4204).extract 0 (4 + rd4 s) = s.extract 0 (4 + rd4 s) := by
      rw [ext_ext s 0 4204 0 _ (by omega) h, Nat.zero_add, Nat.zero_add]
    have x2 : (s.extract 0 4204).extract 5 (4 + (rd4 s : Int)).toNat = s.extract 5 (4 + (rd4 s : Int)).toNat := by
      rw [ext_ext s 0 4204 5 _ (by omega) h, Nat.zero_add, Nat.zero_add]
    rw [e1, e2, x1, x2, hq]
    by_cases hr : (0 : Int) ≤ rangedP (kindP (bt' s 4)) (s.extract 0 (4 + rd4 s))
    · rw [if_pos hr, if_pos hr]
    · rw [if_neg hr, if_neg hr, if_neg (show ¬ ((4204 : Nat) : Int) < 4 + rd4 s from by omega), if_neg (show ¬ (s.size : Int) < 4 + rd4 s from by omega)]
  · rw [if_neg hm, if_neg hm]
/-- What is read from place a on: the reference looks at a piece, the reader at all that is left. -/
theorem dec_piece (fed : ByteArray) (a : Nat) (ha : a ≤ fed.size) (hl : fed.size - a ≤ 65536) : decS (pieceA fed a) = decS (fed.extract a fed.size) := by
  have hz : (fed.extract a fed.size).size = fed.size - a := by rw [ByteArray.size_extract]; omega
  by_cases h : 4204 ≤ fed.size - a
  · have e : (min (fed.size : Int) ((a : Int) + 4200 + 4)).toNat = a + 4204 := by omega
    have : pieceA fed a = (fed.extract a fed.size).extract 0 4204 := by
      rw [ext_ext fed a fed.size 0 4204 (by omega) (Nat.le_refl _), Nat.add_zero]
      show fed.extract a _ = _
      rw [e]
    rw [this, decS_cut _ (by rw [hz]; exact hl) (by rw [hz]; exact h)]
  · have e : (min (fed.size : Int) ((a : Int) + 4200 + 4)).toNat = fed.size := by omega
    show decS (fed.extract a _) = _
    rw [e]
end Go.Proofs.Ytcjmdkklbbollaa
namespace Go.Proofs.Ytcjmdkklbbollaa
open Go.RowKit

theorem find_congr {α : Type} {p q : α → Bool} : ∀ {l : List α}, (∀ x ∈ l, p x = q x) → l.find? p = l.find? q
  | [], _ => rfl
  | a :: l, h => by
    rw [List.find?_cons, List.find?_cons, h a (List.mem_cons_self ..), find_congr (fun x hx => h x (List.mem_cons_of_mem _ hx))]
theorem readR_cut (s : ByteArray) (hs : s.size ≤ 65536) (h : 68 ≤ s.size) : readR (s.extract 0 68) = readR s := by
  have hq : (s.extract 0 68).size = 68 := size_pre s 68 h
  have hb : ∀ i, i < 68 → bt (s.extract 0 68) i = bt s i := fun i hi => by
    show bt' (s.extract 0 68) i = bt' s i
    rw [bt_pre s 68 i h, if_pos hi]
  have hbad : badAt (s.extract 0 68) = badAt s := by
    unfold badAt
    rw [hq, show min 68 28 = 28 from rfl, show min s.size 28 = 28 from by omega]
    exact find_congr fun i hi => by
      rw [List.mem_range] at hi
      rw [hb i (by omega)]
  have hg : gotH (s.extract 0 68) = gotH s := by
    unfold gotH
    rw [hb 25 (by omega), hb 27 (by omega), ext_ext s 0 68 28 48 (by omega) h, ext_ext s 0 68 48 68 (by omega) h]
  unfold readR
  rw [if_neg (show ¬ 65536 < (s.extract 0 68).size from by rw [hq]; omega), if_neg (show ¬ 65536 < s.size from by omega), hbad, hq, hg]
  cases badAt s with
  | some i => rfl
  | none => simp only [if_neg (show ¬ (68 : Nat) < 68 from by omega), if_neg (show ¬ s.size < 68 from by omega)]
/-- What is read of the front: the reference looks at 68 bytes. -/
theorem hello_piece (fed : ByteArray) (h : fed.size ≤ 65536) : readR (helloA fed) = readR fed := by
  by_cases h68 : 68 ≤ fed.size
  · have e : (min (fed.size : Int) 68).toNat = 68 := by omega
    show readR (fed.extract 0 _) = _
    rw [e, readR_cut fed h h68]
  · have e : (min (fed.size : Int) 68).toNat = fed.size := by omega
    show readR (fed.extract 0 _) = _
    rw [e]
    congr 1
    apply eq_of_bl
    rw [extract_list, List.take_of_length_le (by simp)]; rfl
/-- All that stands from a on. -/
abbrev fromA (fed : ByteArray) (a : Nat) : ByteArray := fed.extract a fed.size
theorem from_app (fed s : ByteArray) (a : Nat) (ha : a ≤ fed.size) : fromA (fed ++ s) a = fromA fed a ++ s := by
  apply eq_of_bl
  rw [extract_list, bl_append, bl_append, extract_list]
  have e : (fed ++ s).size = fed.size + s.size := ByteArray.size_append
  rw [e, List.take_of_length_le (by simp), List.take_of_length_le (by simp), List.drop_append_of_le_length (by simp; exact ha)]
theorem from_size (fed : ByteArray) (a : Nat) (ha : a ≤ fed.size) : (fromA fed a).size = fed.size - a := by rw [ByteArray.size_extract]; omega
theorem from_from (fed : ByteArray) (a b : Nat) (h : a + b ≤ fed.size) : (fromA fed a).extract b (fromA fed a).size = fromA fed (a + b) := by
  rw [from_size fed a (by omega), ext_ext fed a fed.size b _ (by omega) (Nat.le_refl _)]
  congr 1; omega
end Go.Proofs.Ytcjmdkklbbollaa
namespace Go.Proofs.Ytcjmdkklbbollaa
open Go.RowKit

theorem rangedP_up (k : Nat) (s : ByteArray) (i n : Nat) (h : i ≤ n) (hn : n ≤ s.size) (h0 : 0 ≤ rangedP k (s.extract 0 i)) : rangedP k (s.extract 0 n) = rangedP k (s.extract 0 i) := by
  rcases rangedP_out k (s.extract 0 n) with h1 | ⟨hb, h1, _⟩ | ⟨hk, h1, _⟩
  · have := rangedP_pre k s i n h hn h1 (block11 k)
    omega
  · rcases rangedP_out k (s.extract 0 i) with h2 | ⟨_, h2, _⟩ | ⟨hk, _, _⟩
    · omega
    · rw [h1, h2]
    · rw [block11 k hk] at hb; cases hb
  · rcases rangedP_out k (s.extract 0 i) with h2 | ⟨hb, _, _⟩ | ⟨_, h2, _⟩
    · omega
    · rw [block11 k hk] at hb; cases hb
    · rw [h1, h2]
/-- What is decided stays so, whatever comes behind. -/
theorem decS_more (s : ByteArray) (i : Nat) (h : i ≤ s.size) (hs : s.size ≤ 65536) (h8 : ¬ (decS (s.extract 0 i)).2.2.2 = 8) : decS s = decS (s.extract 0 i) := by
  have hq := size_pre s i h
  have hx := decS_less (s.extract 0 i) (by rw [hq]; omega)
  rw [hq] at hx
  rw [hx] at h8 ⊢
  rw [decS_less s hs]
  by_cases hb : (4200 : Int) < rd4 (s.extract 0 i)
  · have := rd4_pre_le s i h
    rw [if_pos hb, if_pos (show (4200 : Int) < rd4 s from by omega)]
  rw [if_neg hb] at h8 ⊢
  by_cases h4 : (i : Int) < 4
  · rw [if_pos h4] at h8; exact absurd rfl h8
  rw [if_neg h4] at h8 ⊢
  have hrd := rd4_pre s i h (by omega)
  rw [hrd] at hb h8 ⊢
  rw [if_neg hb, if_neg (show ¬ (s.size : Int) < 4 from by omega)]
  by_cases h0 : (rd4 s : Int) = 0
  · rw [if_pos h0, if_pos h0]
  rw [if_neg h0] at h8 ⊢
  rw [if_neg h0]
  by_cases h5 : (i : Int) < 5
  · rw [if_pos h5] at h8; exact absurd rfl h8
  rw [if_neg h5] at h8 ⊢
  rw [if_neg (show ¬ (s.size : Int) < 5 from by omega)]
  have hb4 : bt' (s.extract 0 i) 4 = bt' s 4 := by rw [bt_pre s i 4 h, if_pos (by omega)]
  unfold restS at h8 ⊢
  rw [hb4, hrd] at h8 ⊢
  by_cases hk : (kindP (bt' s 4) : Int) = 0
  · rw [if_pos hk, if_pos hk]
  rw [if_neg hk] at h8 ⊢
  rw [if_neg hk]
  by_cases hm : mayP (fields (kindP (bt' s 4))) ((rd4 s : Int) - 1) = true
  · rw [if_pos hm] at h8 ⊢
    rw [if_pos hm]
    unfold tailS at h8 ⊢
    have x1 : (s.extract 0 i).extract 0 (min ((s.extract 0 i).size : Int) (4 + rd4 s)).toNat = s.extract 0 (min (i : Int) (4 + rd4 s)).toNat := by
      rw [hq, ext_ext s 0 i 0 _ (by omega) h, Nat.zero_add, Nat.zero_add]
    rw [x1, hq] at h8 ⊢
    by_cases hr : (0 : Int) ≤ rangedP (kindP (bt' s 4)) (s.extract 0 (min (i : Int) (4 + rd4 s)).toNat)
    · rw [if_pos hr]
      have := rangedP_up (kindP (bt' s 4)) s (min (i : Int) (4 + rd4 s)).toNat (min (s.size : Int) (4 + rd4 s)).toNat (by omega) (by omega) hr
      rw [this, if_pos hr]
    · rw [if_neg hr] at h8 ⊢
      by_cases hl : (i : Int) < 4 + rd4 s
      · rw [if_pos hl] at h8; exact absurd rfl h8
      · rw [if_neg hl]
        have e1 : (min (i : Int) (4 + rd4 s)).toNat = 4 + rd4 s := by omega
        have e2 : (min (s.size : Int) (4 + rd4 s)).toNat = 4 + rd4 s := by omega
        have x2 : (s.extract 0 i).extract 5 (4 + (rd4 s : Int)).toNat = s.extract 5 (4 + (rd4 s : Int)).toNat := by
          rw [ext_ext s 0 i 5 _ (by omega) h, Nat.zero_add, Nat.zero_add]
        rw [e1] at hr
        rw [e2, if_neg hr, if_neg (show ¬ (s.size : Int) < 4 + rd4 s from by omega), x2]
  · rw [if_neg hm, if_neg hm]
theorem decS_app (x y : ByteArray) (hs : x.size + y.size ≤ 65536) (h8 : ¬ (decS x).2.2.2 = 8) : decS (x ++ y) = decS x := by
  have hz : (x ++ y).size = x.size + y.size := ByteArray.size_append
  have e := first x y x.size rfl
  have := decS_more (x ++ y) x.size (by rw [hz]; omega) (by rw [hz]; exact hs) (by rw [e]; exact h8)
  rw [e] at this; exact this
end Go.Proofs.Ytcjmdkklbbollaa
namespace Go.Proofs.Ytcjmdkklbbollaa
open Go.RowKit

theorem badAt_app (x y : ByteArray) {i : Nat} (h : badAt x = some i) : badAt (x ++ y) = some i := by
  have hz : (x ++ y).size = x.size + y.size := ByteArray.size_append
  unfold badAt at h ⊢
  obtain ⟨k, hk⟩ : ∃ k, min (x ++ y).size 28 = min x.size 28 + k := ⟨min (x ++ y).size 28 - min x.size 28, by omega⟩
  rw [hk, List.range_add, List.find?_append]
  have : (List.range (min x.size 28)).find? (fun j => !goodH j (bt (x ++ y) j)) = some i := by
    rw [← h]
    exact find_congr fun j hj => by
      rw [List.mem_range] at hj
      have : bt (x ++ y) j = bt x j := bt_append_l x y j (by omega)
      rw [this]
  rw [this]; rfl
theorem readR_app (x y : ByteArray) (hs : x.size + y.size ≤ 65536) (h8 : ¬ (readR x).2.2.2 = 8) : readR (x ++ y) = readR x := by
  have hz : (x ++ y).size = x.size + y.size := ByteArray.size_append
  by_cases h68 : 68 ≤ x.size
  · have e : (x ++ y).extract 0 68 = x.extract 0 68 := by
      have e1 := first x y x.size rfl
      calc (x ++ y).extract 0 68 = ((x ++ y).extract 0 x.size).extract 0 68 := by rw [ext_ext (x ++ y) 0 x.size 0 68 (by omega) (by rw [hz]; omega)]
        _ = x.extract 0 68 := by rw [e1]
    rw [← readR_cut (x ++ y) (by rw [hz]; exact hs) (by rw [hz]; omega), e, readR_cut x (by omega) h68]
  · unfold readR at h8 ⊢
    rw [if_neg (show ¬ 65536 < x.size from by omega)] at h8 ⊢
    rw [if_neg (show ¬ 65536 < (x ++ y).size from by rw [hz]; omega)]
    cases hb : badAt x with
    | some i => rw [badAt_app x y hb]
    | none =>
      rw [hb] at h8
      simp only [if_pos (show x.size < 68 from by omega)] at h8
      exact absurd trivial h8
end Go.Proofs.Ytcjmdkklbbollaa
namespace Go.Proofs.Ytcjmdkklbbollaa
open Go.RowKit

/-- How far the reference reads. -/
def posA : Nat → ByteArray → Nat → Nat
  | 0, _, a => a
  | n + 1, fed, a =>
    if (decS (pieceA fed a)).2.2.2 = 12 then a
    else if (decS (pieceA fed a)).2.2.2 = 0 then posA n fed (a + (decS (pieceA fed a)).2.1.toNat) else a
/-- The reader's steps against what the reference reads. -/
theorem steps_read : ∀ (k n : Nat) (r : Rdr) (fed : ByteArray) (a : Nat) (l : List M) (es : List Int), r.greet = false → r.left = fromA fed a → a ≤ fed.size → fed.size - a ≤ 65536 → fed.size - a < k → r.left.size < n → r.done = a →
    (stepsN n r).ms = r.ms ++ (readAll k fed a l es).1.drop l.length ∧ (readAll k fed a l es).1.take l.length = l ∧ (stepsN n r).greet = false ∧ (stepsN n r).told = r.told ∧ (stepsN n r).hello = r.hello ∧ posA k fed a ≤ fed.size ∧ a ≤ posA k fed a ∧
    (((readAll k fed a l es).2.2 = -1 ∧ (stepsN n r).wrong = r.wrong ∧ (stepsN n r).left = fromA fed (posA k fed a) ∧ (stepsN n r).done = posA k fed a ∧ (stepsN n r).bytes = r.bytes + posA k fed a - a) ∨
     (0 ≤ (readAll k fed a l es).2.2 ∧ (stepsN n r).wrong = (readAll k fed a l es).2.2 ∧ (stepsN n r).left = ⟨#[]⟩))
  | 0, _, _, _, _, _, _, _, _, _, _, hk, _, _ => by omega
  | k + 1, 0, _, _, _, _, _, _, _, _, _, _, hn, _ => by omega
  | k + 1, n + 1, r, fed, a, l, es, hg, hl, ha, h6, hk, hn, hd => by
    have hp := dec_piece fed a ha h6
    have hsz : r.left.size = fed.size - a := by rw [hl, from_size fed a ha]
    have hdl : decS r.left = decS (pieceA fed a) := by rw [hl, hp]
    have hu := dec_used r.left (by omega)
    rw [hdl] at hu
    by_cases h12 : (decS (pieceA fed a)).2.2.2 = 12
    · have hs : stepR r = ({ r with wrong := r.done + (decS (pieceA fed a)).2.2.1, left := ⟨#[]⟩ }, false) := by
        unfold stepR
        rw [if_neg (by rw [hg]; exact Bool.false_ne_true), hdl, if_pos h12]
      have hb := hu.2 h12
      rw [stepsN, hs, if_neg (by exact Bool.false_ne_true), readAll, if_pos h12, posA, if_pos h12]
      refine ⟨?_, ?_, hg, rfl, rfl, ha, Nat.le_refl _, .inr ⟨?_, ?_, rfl⟩⟩
      · show r.ms = r.ms ++ l.drop l.length
        rw [List.drop_length, List.append_nil]
      · exact List.take_length
      · show 0 ≤ (a : Int) + (decS (pieceA fed a)).2.2.1; omega
      · show r.done + _ = (a : Int) + _; rw [hd]
    by_cases h0 : (decS (pieceA fed a)).2.2.2 = 0
    · obtain ⟨u1, u2⟩ := hu.1 h0
      have hlx : r.left.extract ((decS (pieceA fed a)).2.1).toNat r.left.size = fromA fed (a + ((decS (pieceA fed a)).2.1).toNat) := by
        rw [hl]; exact from_from fed a _ (by omega)
      have hs : stepR r = ({ r with ms := r.ms ++ [(decS (pieceA fed a)).1], zs := r.zs ++ [(decS (pieceA fed a)).2.1], bytes := r.bytes + (decS (pieceA fed a)).2.1, left := fromA fed (a + ((decS (pieceA fed a)).2.1).toNat), done := r.done + (decS (pieceA fed a)).2.1 }, true) := by
        unfold stepR
        rw [if_neg (by rw [hg]; exact Bool.false_ne_true), hdl, if_neg h12, if_pos h0, hlx]
      rw [stepsN, hs, if_pos rfl, readAll, if_neg h12, if_pos h0, posA, if_neg h12, if_pos h0]
      have hfs := from_size fed (a + ((decS (pieceA fed a)).2.1).toNat) (by omega)
      obtain ⟨i1, i2, i3, i4, i5, i6, i7, i8⟩ := steps_read k n { r with ms := r.ms ++ [(decS (pieceA fed a)).1], zs := r.zs ++ [(decS (pieceA fed a)).2.1], bytes := r.bytes + (decS (pieceA fed a)).2.1, left := fromA fed (a + ((decS (pieceA fed a)).2.1).toNat), done := r.done + (decS (pieceA fed a)).2.1 } fed (a + ((decS (pieceA fed a)).2.1).toNat) (l ++ [(decS (pieceA fed a)).1]) (es ++ [(a : Int) + (decS (pieceA fed a)).2.1])
        hg rfl (by omega) (by omega) (by omega) (by show (fromA fed _).size < n; omega) (by show r.done + _ = _; omega)
      generalize readAll k fed (a + ((decS (pieceA fed a)).2.1).toNat) (l ++ [(decS (pieceA fed a)).1]) (es ++ [(a : Int) + (decS (pieceA fed a)).2.1]) = q at i1 i2 i8 ⊢
      have hlen : (l ++ [(decS (pieceA fed a)).1]).length = l.length + 1 := by simp
      rw [hlen] at i1 i2
      have hql : l.length + 1 ≤ q.1.length := by
        have := congrArg List.length i2
        rw [List.length_take, hlen] at this; omega
      have htk : q.1.take l.length = l := by
        have := congrArg (List.take l.length) i2
        rw [List.take_take, Nat.min_eq_left (by omega), List.take_append_of_le_length (by omega), List.take_length] at this
        exact this
      have hdr : q.1.drop l.length = (decS (pieceA fed a)).1 :: q.1.drop (l.length + 1) := by
        have hx : q.1[l.length]? = some (decS (pieceA fed a)).1 := by
          have := congrArg (fun z => z[l.length]?) i2
          simp only [List.getElem?_take] at this
          rw [if_pos (by omega)] at this
          rw [this]; simp
        exact drop_of_get hx
      refine ⟨by rw [i1, hdr]; simp, htk, i3, i4, i5, i6, by omega, ?_⟩
      rcases i8 with ⟨j1, j2, j3, j4, j5⟩ | ⟨j1, j2, j3⟩
      · refine .inl ⟨j1, j2, j3, j4, ?_⟩
        rw [j5]; show r.bytes + _ + _ - _ = _; omega
      · exact .inr ⟨j1, j2, j3⟩
    · have hs : stepR r = (r, false) := by
        unfold stepR
        rw [if_neg (by rw [hg]; exact Bool.false_ne_true), hdl, if_neg h12, if_neg h0]
      rw [stepsN, hs, if_neg (by exact Bool.false_ne_true), readAll, if_neg h12, if_neg h0, posA, if_neg h12, if_neg h0]
      refine ⟨?_, List.take_length, hg, rfl, rfl, ha, Nat.le_refl _, .inl ⟨rfl, rfl, hl, hd, by show r.bytes = r.bytes + (a : Int) - a; omega⟩⟩
      show r.ms = r.ms ++ l.drop l.length
      rw [List.drop_length, List.append_nil]
end Go.Proofs.Ytcjmdkklbbollaa
namespace Go.Proofs.Ytcjmdkklbbollaa
open Go.RowKit

theorem piece_used (fed : ByteArray) (a : Nat) (ha : a ≤ fed.size) (h0 : (decS (pieceA fed a)).2.2.2 = 0) : 4 ≤ (decS (pieceA fed a)).2.1 ∧ (decS (pieceA fed a)).2.1 ≤ (fed.size : Int) - a := by
  have hp : (pieceA fed a).size ≤ 4204 := by rw [ByteArray.size_extract]; omega
  have hp2 : (pieceA fed a).size ≤ fed.size - a := by rw [ByteArray.size_extract]; omega
  have := (dec_used (pieceA fed a) (by omega)).1 h0
  omega
/-- With more bytes a piece goes on. -/
theorem ext_more (f s : ByteArray) (a b n : Nat) (ha : a ≤ f.size) (hb : b = min f.size (a + n)) (c : Nat) (hc : c = min (f.size + s.size) (a + n)) : ∃ y : ByteArray, y.size ≤ n ∧ (f ++ s).extract a c = f.extract a b ++ y := by
  refine ⟨s.extract 0 (a + n - f.size), by rw [ByteArray.size_extract]; omega, ?_⟩
  apply eq_of_bl
  have e1 : f.data.toList.length = f.size := by simp
  have e2 : s.data.toList.length = s.size := by simp
  rw [extract_list, bl_append, bl_append, extract_list, extract_list, List.drop_zero, hb, hc]
  rw [List.take_append, List.drop_append, e1]
  by_cases h : f.size ≤ a + n
  · rw [List.take_of_length_le (by omega), List.take_of_length_le (l := f.data.toList) (by omega), Nat.sub_eq_zero_of_le (show a ≤ _ by rw [e1]; exact ha), List.drop_zero]
    congr 1
    by_cases h2 : f.size + s.size ≤ a + n
    · rw [List.take_of_length_le (by omega), List.take_of_length_le (by omega)]
    · congr 1; omega
  · have h3 : min (f.size + s.size) (a + n) - f.size = 0 := by omega
    have h4 : a + n - f.size = 0 := by omega
    simp only [h3, h4, List.take_zero, List.drop_nil, List.append_nil]
    congr 2; omega
theorem piece_app (f s : ByteArray) (a : Nat) (ha : a ≤ f.size) : ∃ y : ByteArray, y.size ≤ 4204 ∧ pieceA (f ++ s) a = pieceA f a ++ y := by
  have hz : (f ++ s).size = f.size + s.size := ByteArray.size_append
  exact ext_more f s a _ 4204 ha (by omega) _ (by rw [hz]; omega)
theorem helloA_app (f s : ByteArray) : ∃ y : ByteArray, y.size ≤ 68 ∧ helloA (f ++ s) = helloA f ++ y := by
  have hz : (f ++ s).size = f.size + s.size := ByteArray.size_append
  exact ext_more f s 0 _ 68 (Nat.zero_le _) (by omega) _ (by rw [hz]; omega)
/-- What the handshake says stays so. -/
theorem hello_stays (f s : ByteArray) (h : ¬ (readR (helloA f)).2.2.2 = 8) : readR (helloA (f ++ s)) = readR (helloA f) := by
  obtain ⟨y, hy, e⟩ := helloA_app f s
  have : (helloA f).size ≤ 68 := by rw [ByteArray.size_extract]; omega
  rw [e]; exact readR_app _ _ (by omega) h
/-- More rounds than are needed change nothing. -/
theorem readAll_fuel : ∀ (k K : Nat) (fed : ByteArray) (a : Nat) (l : List M) (es : List Int), a ≤ fed.size → fed.size - a < k → fed.size - a < K → readAll k fed a l es = readAll K fed a l es
  | 0, _, _, _, _, _, _, h, _ => by omega
  | k + 1, 0, _, _, _, _, _, _, h => by omega
  | k + 1, K + 1, fed, a, l, es, ha, h1, h2 => by
    by_cases h12 : (decS (pieceA fed a)).2.2.2 = 12
    · rw [readAll, if_pos h12, readAll, if_pos h12]
    by_cases h0 : (decS (pieceA fed a)).2.2.2 = 0
    · have hu := piece_used fed a ha h0
      rw [readAll, if_neg h12, if_pos h0, readAll, if_neg h12, if_pos h0]
      exact readAll_fuel k K fed (a + (decS (pieceA fed a)).2.1.toNat) _ _ (by omega) (by omega) (by omega)
    · rw [readAll, if_neg h12, if_neg h0, readAll, if_neg h12, if_neg h0]
/-- With more bytes the reference goes on where it stood. -/
theorem readAll_app : ∀ (k : Nat) (fed s : ByteArray) (a : Nat) (l : List M) (es : List Int), a ≤ fed.size → fed.size - a < k → (readAll k fed a l es).2.2 = -1 →
    readAll ((fed ++ s).size + 1) (fed ++ s) a l es = readAll ((fed ++ s).size + 1) (fed ++ s) (posA k fed a) (readAll k fed a l es).1 (readAll k fed a l es).2.1
  | 0, _, _, _, _, _, _, h, _ => by omega
  | k + 1, fed, s, a, l, es, ha, hk, hw => by
    have hz : (fed ++ s).size = fed.size + s.size := ByteArray.size_append
    by_cases h12 : (decS (pieceA fed a)).2.2.2 = 12
    · have hp : (pieceA fed a).size ≤ 4204 := by rw [ByteArray.size_extract]; omega
      have := (dec_used (pieceA fed a) (by omega)).2 h12
      rw [readAll, if_pos h12] at hw
      have hw' : (a : Int) + (decS (pieceA fed a)).2.2.1 = -1 := hw
      omega
    by_cases h0 : (decS (pieceA fed a)).2.2.2 = 0
    · have hu := piece_used fed a ha h0
      have e : decS (pieceA (fed ++ s) a) = decS (pieceA fed a) := by
        obtain ⟨y, hy, e⟩ := piece_app fed s a ha
        have hp : (pieceA fed a).size ≤ 4204 := by rw [ByteArray.size_extract]; omega
        rw [e]
        exact decS_app _ _ (by omega) (by rw [h0]; omega)
      rw [readAll, if_neg h12, if_pos h0] at hw
      rw [posA, if_neg h12, if_pos h0]
      rw [show readAll (k + 1) fed a l es = readAll k fed (a + (decS (pieceA fed a)).2.1.toNat) (l ++ [(decS (pieceA fed a)).1]) (es ++ [(a : Int) + (decS (pieceA fed a)).2.1]) from by rw [readAll, if_neg h12, if_pos h0]]
      rw [← readAll_app k fed s (a + (decS (pieceA fed a)).2.1.toNat) _ _ (by omega) (by omega) hw]
      rw [readAll_next (n := (fed ++ s).size + 1) (by omega) (by rw [e]; exact h12) (by rw [e]; exact h0), e]
      exact readAll_fuel _ _ _ _ _ _ (by omega) (by omega) (by omega)
    · rw [posA, if_neg h12, if_neg h0]
      rw [show readAll (k + 1) fed a l es = (l, es, -1) from by rw [readAll, if_neg h12, if_neg h0]]
end Go.Proofs.Ytcjmdkklbbollaa
namespace Go.Proofs.Ytcjmdkklbbollaa
open Go.RowKit

/-- The last end is where reading stands. -/
theorem ends_last : ∀ (k : Nat) (fed : ByteArray) (a : Nat) (l : List M) (es : List Int), a ≤ fed.size → fed.size - a < k →
    ((readAll k fed a l es).2.1 = es ∧ posA k fed a = a) ∨ (es.length < (readAll k fed a l es).2.1.length ∧ (readAll k fed a l es).2.1.getD ((readAll k fed a l es).2.1.length - 1) 0 = (posA k fed a : Int))
  | 0, _, _, _, _, _, h => by omega
  | k + 1, fed, a, l, es, ha, hk => by
    by_cases h12 : (decS (pieceA fed a)).2.2.2 = 12
    · rw [readAll, if_pos h12, posA, if_pos h12]; exact .inl ⟨rfl, rfl⟩
    by_cases h0 : (decS (pieceA fed a)).2.2.2 = 0
    · have hu := piece_used fed a ha h0
      rw [readAll, if_neg h12, if_pos h0, posA, if_neg h12, if_pos h0]
      have hlen : (es ++ [(a : Int) + (decS (pieceA fed a)).2.1]).length = es.length + 1 := by simp
      right
      rcases ends_last k fed (a + (decS (pieceA fed a)).2.1.toNat) (l ++ [(decS (pieceA fed a)).1]) (es ++ [(a : Int) + (decS (pieceA fed a)).2.1]) (by omega) (by omega) with ⟨h1, h2⟩ | ⟨h1, h2⟩
      · rw [h1, h2, hlen]
        refine ⟨by omega, ?_⟩
        rw [Nat.add_sub_cancel, List.getD_eq_getElem?_getD, List.getElem?_append_right (Nat.le_refl _), Nat.sub_self]
        simp only [List.getElem?_cons_zero, Option.getD_some]
        omega
      · rw [hlen] at h1
        exact ⟨Nat.lt_of_succ_lt h1, h2⟩
    · rw [readAll, if_neg h12, if_neg h0, posA, if_neg h12, if_neg h0]; exact .inl ⟨rfl, rfl⟩
end Go.Proofs.Ytcjmdkklbbollaa
namespace Go.Proofs.Ytcjmdkklbbollaa
open Go.RowKit

/-- Where the last message that is whole ends. -/
def EndOf (W : Whl) (a : Nat) : Prop := (W.ends.length = 0 ∧ W.start = a) ∨ (0 < W.ends.length ∧ W.ends.getD (W.ends.length - 1) 0 = a)
/-- How reading stands, at place a. -/
def Stand (r : Rdr) (g : Bool) (fed : ByteArray) (a : Nat) : Prop :=
  (r.greet = true ∧ r.told = false ∧ g = true ∧ a = 0 ∧ (readR (helloA fed)).2.2.2 = 8) ∨ (r.greet = false ∧ (g = true → (readR (helloA fed)).2.2.2 = 0) ∧ EndOf (wholeR g fed) a)
/-- The reader and the reference have read the same. -/
structure Agree (r : Rdr) (g : Bool) (fed : ByteArray) (t : Nat) : Prop where
  taken : t ≤ (wholeR g fed).list.length
  ms : r.ms = (wholeR g fed).list.drop t
  wrong : r.wrong = (wholeR g fed).wrong
  told : r.told = (wholeR g fed).greets
  hello : r.told = true → r.hello = (wholeR g fed).hello
  left : (r.left.size : Int) = leftS g fed
  live : r.wrong = -1 → ∃ a : Nat, a ≤ fed.size ∧ r.left = fromA fed a ∧ r.done = a ∧ r.bytes = a - fromS g fed t ∧ Stand r g fed a
  /-- Where the bytes of the messages that wait begin and end. -/
  ends : ∀ j : Nat, j < r.zs.length → (wholeR g fed).ends.getD (t + j) 0 = fromS g fed t + (r.zs.take (j + 1)).sum
/-- Next keeps it. -/
theorem agree_next {r : Rdr} {B : Nat} {g : Bool} {fed : ByteArray} {t : Nat} (hr : r.Ok B) (h : Agree r g fed t) :
    (nextR r).2.1 = (nextS g fed t).2.1 ∧ (nextR r).2.2 = (nextS g fed t).2.2 ∧ Agree (nextR r).1 g fed (nextS g fed t).1 := by
  have hwe := whole_ends g fed
  by_cases ht : (t : Int) = (wholeR g fed).list.length
  · have hn : nextS g fed t = (t, Zm, false) := by unfold nextS; rw [if_pos ht]
    have h0 : r.ms = [] := by rw [h.ms]; exact List.drop_eq_nil_of_le (by omega)
    rw [hn, nextR_nil h0]
    exact ⟨rfl, rfl, h⟩
  · have htl : t < (wholeR g fed).list.length := by have := h.taken; omega
    have hn : nextS g fed t = (t + 1, (wholeR g fed).list.getD t Zm, true) := by unfold nextS; rw [if_neg ht]
    have hm : r.ms[0]? = some ((wholeR g fed).list.getD t Zm) := by
      rw [h.ms, List.getElem?_drop, Nat.add_zero, List.getD_eq_getElem?_getD, List.getElem?_eq_getElem htl]; rfl
    have hlen : r.zs.length = (wholeR g fed).list.length - t := by rw [hr.len, h.ms, List.length_drop]
    have h00 := h.ends 0 (by omega)
    rw [hn, nextR_at hr hm]
    have hf : fromS g fed (t + 1) = (wholeR g fed).ends.getD t 0 := by
      unfold fromS
      rw [if_pos (by omega), show (((t + 1 : Nat) : Int) - 1).toNat = t from by omega]
    obtain ⟨z, zs, hz⟩ : ∃ z zs, r.zs = z :: zs := by
      cases hq : r.zs with
      | nil => rw [hq] at hlen; simp at hlen; omega
      | cons z zs => exact ⟨z, zs, rfl⟩
    have hz0 : r.zs.getD 0 0 = z := by rw [hz]; rfl
    refine ⟨rfl, rfl, ⟨htl, ?_, h.wrong, h.told, h.hello, h.left, fun hw => ?_, fun j hj => ?_⟩⟩
    · show r.ms.drop 1 = _
      rw [h.ms, List.drop_drop]
    · obtain ⟨a, h1, h2, h3, h4, h5⟩ := h.live hw
      refine ⟨a, h1, h2, h3, ?_, h5⟩
      show r.bytes - r.zs.getD 0 0 = _
      rw [Nat.add_zero, hz] at h00
      simp only [List.take_succ_cons, List.sum_cons, List.take_zero, List.sum_nil] at h00
      rw [hf, hz0, h00]; omega
    · show _ = fromS g fed (t + 1) + ((r.zs.drop 1).take (j + 1)).sum
      have hj' : j + 1 < r.zs.length := by
        have : j < (r.zs.drop 1).length := hj
        rw [List.length_drop] at this; omega
      have h1 := h.ends (j + 1) hj'
      rw [hf, show t + 1 + j = t + (j + 1) from by omega, h1]
      rw [Nat.add_zero] at h00
      rw [h00, hz]
      simp only [List.take_succ_cons, List.sum_cons, List.drop_succ_cons, List.drop_zero, List.take_zero, List.sum_nil]
      omega
end Go.Proofs.Ytcjmdkklbbollaa
namespace Go.Proofs.Ytcjmdkklbbollaa
open Go.RowKit

/-- The sizes that the reader notes against the ends that the reference tells. -/
theorem steps_ends : ∀ (k n : Nat) (r : Rdr) (fed : ByteArray) (a : Nat) (l : List M) (es : List Int), r.greet = false → r.left = fromA fed a → a ≤ fed.size → fed.size - a ≤ 65536 → fed.size - a < k → r.left.size < n →
    ∃ d : List Int, (stepsN n r).zs = r.zs ++ d ∧ (readAll k fed a l es).2.1.length = es.length + d.length ∧ (readAll k fed a l es).2.1.take es.length = es ∧
      ∀ j, j < d.length → (readAll k fed a l es).2.1.getD (es.length + j) 0 = (a : Int) + (d.take (j + 1)).sum
  | 0, _, _, _, _, _, _, _, _, _, _, hk, _ => by omega
  | k + 1, 0, _, _, _, _, _, _, _, _, _, _, hn => by omega
  | k + 1, n + 1, r, fed, a, l, es, hg, hl, ha, h6, hk, hn => by
    have hp := dec_piece fed a ha h6
    have hsz : r.left.size = fed.size - a := by rw [hl, from_size fed a ha]
    have hdl : decS r.left = decS (pieceA fed a) := by rw [hl, hp]
    have hu := dec_used r.left (by omega)
    rw [hdl] at hu
    by_cases h12 : (decS (pieceA fed a)).2.2.2 = 12
    · have hs : stepR r = ({ r with wrong := r.done + (decS (pieceA fed a)).2.2.1, left := ⟨#[]⟩ }, false) := by
        unfold stepR
        rw [if_neg (by rw [hg]; exact Bool.false_ne_true), hdl, if_pos h12]
      rw [stepsN, hs, if_neg (by exact Bool.false_ne_true), readAll, if_pos h12]
      exact ⟨[], by simp, by simp, List.take_length, fun j hj => by simp at hj⟩
    by_cases h0 : (decS (pieceA fed a)).2.2.2 = 0
    · obtain ⟨u1, u2⟩ := hu.1 h0
      have hlx : r.left.extract ((decS (pieceA fed a)).2.1).toNat r.left.size = fromA fed (a + ((decS (pieceA fed a)).2.1).toNat) := by
        rw [hl]; exact from_from fed a _ (by omega)
      have hs : stepR r = ({ r with ms := r.ms ++ [(decS (pieceA fed a)).1], zs := r.zs ++ [(decS (pieceA fed a)).2.1], bytes := r.bytes + (decS (pieceA fed a)).2.1, left := fromA fed (a + ((decS (pieceA fed a)).2.1).toNat), done := r.done + (decS (pieceA fed a)).2.1 }, true) := by
        unfold stepR
        rw [if_neg (by rw [hg]; exact Bool.false_ne_true), hdl, if_neg h12, if_pos h0, hlx]
      rw [stepsN, hs, if_pos rfl, readAll, if_neg h12, if_pos h0]
      have hfs := from_size fed (a + ((decS (pieceA fed a)).2.1).toNat) (by omega)
      obtain ⟨d, i1, i2, i3, i4⟩ := steps_ends k n { r with ms := r.ms ++ [(decS (pieceA fed a)).1], zs := r.zs ++ [(decS (pieceA fed a)).2.1], bytes := r.bytes + (decS (pieceA fed a)).2.1, left := fromA fed (a + ((decS (pieceA fed a)).2.1).toNat), done := r.done + (decS (pieceA fed a)).2.1 } fed (a + ((decS (pieceA fed a)).2.1).toNat) (l ++ [(decS (pieceA fed a)).1]) (es ++ [(a : Int) + (decS (pieceA fed a)).2.1])
        hg rfl (by omega) (by omega) (by omega) (by show (fromA fed _).size < n; omega)
      generalize readAll k fed (a + ((decS (pieceA fed a)).2.1).toNat) (l ++ [(decS (pieceA fed a)).1]) (es ++ [(a : Int) + (decS (pieceA fed a)).2.1]) = q at i2 i3 i4 ⊢
      generalize hz : (decS (pieceA fed a)).2.1 = z at i1 i2 i3 i4 u1 u2 ⊢
      have hlen : (es ++ [(a : Int) + z]).length = es.length + 1 := by simp
      rw [hlen] at i2 i3 i4
      refine ⟨z :: d, by rw [i1]; simp, by rw [i2, List.length_cons]; omega, ?_, fun j hj => ?_⟩
      · have := congrArg (List.take es.length) i3
        rw [List.take_take, Nat.min_eq_left (by omega), List.take_append_of_le_length (by omega), List.take_length] at this
        exact this
      · rcases Nat.eq_zero_or_pos j with rfl | hj0
        · have hx : q.2.1[es.length]? = some ((a : Int) + z) := by
            have := congrArg (fun y => y[es.length]?) i3
            simp only [List.getElem?_take] at this
            rw [if_pos (by omega)] at this
            rw [this]; simp
          rw [Nat.add_zero, List.getD_eq_getElem?_getD, hx]
          simp
        · obtain ⟨i, rfl⟩ : ∃ i, j = i + 1 := ⟨j - 1, by omega⟩
          rw [List.length_cons] at hj
          have := i4 i (by omega)
          rw [show es.length + (i + 1) = es.length + 1 + i from by omega, this, List.take_succ_cons, List.sum_cons]
          omega
    · have hs : stepR r = (r, false) := by
        unfold stepR
        rw [if_neg (by rw [hg]; exact Bool.false_ne_true), hdl, if_neg h12, if_neg h0]
      rw [stepsN, hs, if_neg (by exact Bool.false_ne_true), readAll, if_neg h12, if_neg h0]
      exact ⟨[], by simp, by simp, List.take_length, fun j hj => by simp at hj⟩
def stA (g : Bool) : Nat := if g = true then 68 else 0
/-- What Whole answers, once the handshake stands (or none is awaited). -/
theorem hello_lens (fed : ByteArray) : (helloA fed).size ≤ 68 ∧ (helloA fed).size ≤ fed.size := by rw [ByteArray.size_extract]; omega
theorem whole_reads (g : Bool) (fed : ByteArray) (h : g = true → (readR (helloA fed)).2.2.2 = 0) :
    stA g ≤ fed.size ∧ wholeR g fed = ⟨if g = true then (readR (helloA fed)).1 else Hs.zero, g, (readAll (fed.size + 1) fed (stA g) [] []).1, (readAll (fed.size + 1) fed (stA g) [] []).2.1, (stA g : Int), (readAll (fed.size + 1) fed (stA g) [] []).2.2⟩ := by
  have hl := hello_lens fed
  have hu := read_used (helloA fed) (by omega)
  cases g with
  | false => exact ⟨Nat.zero_le _, by unfold wholeR stA; simp⟩
  | true =>
    have h0 := h rfl
    refine ⟨by have := (hu.2.1 h0).2; show 68 ≤ _; omega, ?_⟩
    unfold wholeR
    have e68 : stA true = 68 := rfl
    have e1 : ((68 : Nat) : Int) = 68 := rfl
    rw [if_pos rfl, if_neg (by omega), if_pos h0, e68, e1, if_pos rfl]
theorem whole_none (fed : ByteArray) (h : (readR (helloA fed)).2.2.2 = 8) : wholeR true fed = ⟨Hs.zero, false, [], [], 0, -1⟩ := by
  unfold wholeR
  rw [if_pos rfl, if_neg (by omega), if_neg (by omega)]
theorem whole_bad (fed : ByteArray) (h : (readR (helloA fed)).2.2.2 = 12) : wholeR true fed = ⟨Hs.zero, false, [], [], 0, (readR (helloA fed)).2.2.1⟩ := by
  unfold wholeR
  rw [if_pos rfl, if_pos h]
/-- Reading goes on from place a. -/
theorem agree_go {r : Rdr} {g : Bool} {fed : ByteArray} {t a n : Nat} {l : List M} {es : List Int} (h6 : fed.size - a ≤ 65536)
    (hrd : g = true → (readR (helloA fed)).2.2.2 = 0) (hgo : readAll (fed.size + 1) fed (stA g) [] [] = readAll (fed.size + 1) fed a l es)
    (hg : r.greet = false) (hl : r.left = fromA fed a) (ha : a ≤ fed.size) (hn : r.left.size < n) (hd : r.done = a) (hw : r.wrong = -1)
    (htold : r.told = g) (hhello : g = true → r.hello = (readR (helloA fed)).1)
    (hlen : es.length = l.length) (ht : t ≤ l.length) (hms : r.ms = l.drop t) (hzl : r.zs.length = r.ms.length)
    (hend : (es = [] ∧ a = stA g) ∨ (es ≠ [] ∧ es.getD (es.length - 1) 0 = a))
    (hb : r.bytes = r.zs.sum) (hfr : r.bytes = a - (if (0 : Int) < t then es.getD ((t : Int) - 1).toNat 0 else (stA g : Int)))
    (hends : ∀ j : Nat, j < r.zs.length → es.getD (t + j) 0 = (if (0 : Int) < t then es.getD ((t : Int) - 1).toNat 0 else (stA g : Int)) + (r.zs.take (j + 1)).sum) :
    Agree (stepsN n r) g fed t := by
  obtain ⟨hst, hW⟩ := whole_reads g fed hrd
  rw [hgo] at hW
  obtain ⟨s1, s2, s3, s4, s5, s6, s7, s8⟩ := steps_read (fed.size + 1) n r fed a l es hg hl ha (by omega) (by omega) hn hd
  obtain ⟨d, d1, d2, d3, d4⟩ := steps_ends (fed.size + 1) n r fed a l es hg hl ha (by omega) (by omega) hn
  have hlast := ends_last (fed.size + 1) fed a l es ha (by omega)
  generalize readAll (fed.size + 1) fed a l es = q at *
  generalize posA (fed.size + 1) fed a = b at *
  have hql : l.length ≤ q.1.length := by
    have := congrArg List.length s2
    rw [List.length_take] at this; omega
  have hqe : ∀ i, i < es.length → q.2.1.getD i 0 = es.getD i 0 := fun i hi => by
    have := congrArg (fun y => y[i]?) d3
    simp only [List.getElem?_take] at this
    rw [if_pos hi] at this
    rw [List.getD_eq_getElem?_getD, List.getD_eq_getElem?_getD, this]
  have hfrom : fromS g fed t = (if (0 : Int) < t then es.getD ((t : Int) - 1).toNat 0 else (stA g : Int)) := by
    unfold fromS
    rw [hW]
    by_cases h0 : (0 : Int) < t
    · rw [if_pos h0, if_pos h0]; exact hqe _ (by omega)
    · rw [if_neg h0, if_neg h0]
  have hleft : (q.2.2 = -1 → (leftS g fed : Int) = fed.size - b) ∧ (0 ≤ q.2.2 → leftS g fed = 0) := by
    unfold leftS
    rw [hW]
    refine ⟨fun hq => ?_, fun hq => by rw [if_pos hq]⟩
    rw [if_neg (by show ¬ (0 : Int) ≤ q.2.2; omega)]
    rcases hlast with ⟨e1, e2⟩ | ⟨e1, e2⟩
    · show (if (0 : Int) < q.2.1.length then (fed.size : Int) - q.2.1.getD ((q.2.1.length : Int) - 1).toNat 0 else (fed.size : Int) - (stA g : Int)) = _
      rw [e1]
      rcases hend with ⟨f1, f2⟩ | ⟨f1, f2⟩
      · rw [f1, if_neg (by simp)]; omega
      · have : 0 < es.length := (List.length_pos_iff.2 f1)
        rw [if_pos (by omega), show ((es.length : Int) - 1).toNat = es.length - 1 from by omega, f2]; omega
    · show (if (0 : Int) < q.2.1.length then (fed.size : Int) - q.2.1.getD ((q.2.1.length : Int) - 1).toNat 0 else (fed.size : Int) - (stA g : Int)) = _
      rw [if_pos (by omega), show ((q.2.1.length : Int) - 1).toNat = q.2.1.length - 1 from by omega, e2]
  refine ⟨?_, ?_, ?_, ?_, ?_, ?_, ?_, ?_⟩
  · rw [hW]; show t ≤ q.1.length; omega
  · rw [hW, s1, hms]
    show l.drop t ++ q.1.drop l.length = q.1.drop t
    have : q.1 = l ++ q.1.drop l.length := by
      conv => lhs; rw [← List.take_append_drop l.length q.1, s2]
    conv => rhs; rw [this, List.drop_append_of_le_length ht]
  · rw [hW]
    show _ = q.2.2
    rcases s8 with ⟨j1, j2, _⟩ | ⟨j1, j2, _⟩
    · rw [j2, hw, j1]
    · exact j2
  · rw [hW, s4, htold]
  · intro h
    rw [s4, htold] at h
    rw [hW, s5, hhello h]
    show _ = if g = true then (readR (helloA fed)).1 else Hs.zero
    rw [if_pos h]
  · rcases s8 with ⟨j1, j2, j3, j4, j5⟩ | ⟨j1, j2, j3⟩
    · rw [j3, from_size fed b s6, hleft.1 j1]; omega
    · rw [j3, hleft.2 j1]; rfl
  · intro hwr
    rcases s8 with ⟨j1, j2, j3, j4, j5⟩ | ⟨j1, j2, j3⟩
    · refine ⟨b, s6, j3, j4, by rw [j5, hfrom, hfr]; omega, .inr ⟨s3, hrd, ?_⟩⟩
      unfold EndOf
      rw [hW]
      show (q.2.1.length = 0 ∧ (stA g : Int) = b) ∨ (0 < q.2.1.length ∧ q.2.1.getD (q.2.1.length - 1) 0 = b)
      rcases hlast with ⟨e1, e2⟩ | ⟨e1, e2⟩
      · rw [e1, e2]
        rcases hend with ⟨f1, f2⟩ | ⟨f1, f2⟩
        · left; rw [f1]; exact ⟨rfl, by omega⟩
        · right; exact ⟨(List.length_pos_iff.2 f1), f2⟩
      · right; exact ⟨by omega, e2⟩
    · omega
  · intro j hj
    rw [hfrom, hW]
    show q.2.1.getD (t + j) 0 = _
    rw [d1] at hj ⊢
    rw [List.length_append] at hj
    have hlr : r.zs.length = l.length - t := by rw [hzl, hms, List.length_drop]
    by_cases h : j < r.zs.length
    · rw [hqe _ (by omega), hends j h, List.take_append_of_le_length (by omega)]
    · obtain ⟨i, rfl⟩ : ∃ i, j = r.zs.length + i := ⟨j - r.zs.length, by omega⟩
      rw [show t + (r.zs.length + i) = es.length + i from by omega, d4 i (by omega), List.take_append, List.take_of_length_le (l := r.zs) (i := r.zs.length + i + 1) (by omega), List.sum_append, ← hb, hfr, show r.zs.length + i + 1 - r.zs.length = i + 1 from by omega]
      omega
theorem readAll_wrong : ∀ (n : Nat) (fed : ByteArray) (a : Nat) (l : List M) (es : List Int), ¬ (0 : Int) ≤ (readAll n fed a l es).2.2 → (readAll n fed a l es).2.2 = -1
  | 0, _, _, _, _, _ => rfl
  | n + 1, fed, a, l, es, h => by
    have hp : (pieceA fed a).size ≤ 4204 := by rw [ByteArray.size_extract]; omega
    by_cases h12 : (decS (pieceA fed a)).2.2.2 = 12
    · have := (dec_used (pieceA fed a) (by omega)).2 h12
      rw [readAll, if_pos h12] at h
      exact absurd (show (0 : Int) ≤ (a : Int) + (decS (pieceA fed a)).2.2.1 by omega) h
    by_cases h0 : (decS (pieceA fed a)).2.2.2 = 0
    · rw [readAll, if_neg h12, if_pos h0] at h ⊢
      exact readAll_wrong n _ _ _ _ h
    · rw [readAll, if_neg h12, if_neg h0]
theorem whole_readsQ (g : Bool) (fed : ByteArray) (h : g = true → (readR (helloA fed)).2.2.2 = 0) :
    ∃ q, readAll (fed.size + 1) fed (stA g) [] [] = q ∧ wholeR g fed = ⟨if g = true then (readR (helloA fed)).1 else Hs.zero, g, q.1, q.2.1, (stA g : Int), q.2.2⟩ := ⟨_, rfl, (whole_reads g fed h).2⟩
theorem whole_wrong (g : Bool) (fed : ByteArray) (h : ¬ (0 : Int) ≤ (wholeR g fed).wrong) : (wholeR g fed).wrong = -1 := by
  have hl := hello_lens fed
  obtain ⟨v0, v1, v2⟩ := read_used (helloA fed) (by omega)
  have key : ∀ (hh : g = true → (readR (helloA fed)).2.2.2 = 0), (wholeR g fed).wrong = -1 := fun hh => by
    obtain ⟨q, hq, k⟩ := whole_readsQ g fed hh
    have hw := readAll_wrong (fed.size + 1) fed (stA g) [] []
    rw [hq] at hw
    rw [k] at h ⊢
    exact hw h
  cases g with
  | false => exact key (fun h => by cases h)
  | true =>
    rcases v0 with v | v | v
    · exact key (fun _ => v)
    · rw [whole_none fed v]
    · exfalso
      have e := whole_bad fed v
      rw [e] at h
      have := (v2 v).1
      exact h this
theorem from_zero (x : ByteArray) : fromA x 0 = x := by
  apply eq_of_bl
  show (x.extract 0 x.size).data.toList = _
  rw [extract_list, List.take_of_length_le (by simp)]; rfl
theorem stepR_bad {x : Rdr} (hg : x.greet = true) (h : (readR x.left).2.2.2 = 12) : stepR x = ({ x with hello := (readR x.left).1, wrong := x.done + (readR x.left).2.2.1, left := ⟨#[]⟩ }, false) := by
  unfold stepR; rw [if_pos hg, if_pos h]
theorem stepR_hello {x : Rdr} (hg : x.greet = true) (h : (readR x.left).2.2.2 = 0) : stepR x = ({ x with hello := (readR x.left).1, greet := false, told := true, left := x.left.extract ((readR x.left).2.1).toNat x.left.size, done := x.done + (readR x.left).2.1 }, true) := by
  unfold stepR; rw [if_pos hg, if_neg (by omega), if_pos h]
theorem stepR_none {x : Rdr} (hg : x.greet = true) (h : (readR x.left).2.2.2 = 8) : stepR x = ({ x with hello := (readR x.left).1 }, false) := by
  unfold stepR; rw [if_pos hg, if_neg (by omega), if_neg (by omega)]
/-- A handshake is awaited. -/
theorem agree_greet {x : Rdr} {fed : ByteArray} {n : Nat} (h6 : fed.size ≤ 65536) (hg : x.greet = true) (ht : x.told = false) (hms : x.ms = []) (hzs : x.zs = []) (hby : x.bytes = 0) (hd : x.done = 0) (hw : x.wrong = -1) (hl : x.left = fed) (hn : fed.size ≤ n) :
    Agree (stepsN (n + 1) x) true fed 0 := by
  have hpc := hello_piece fed h6
  obtain ⟨v0, v1, v2⟩ := read_used fed h6
  rw [stepsN]
  rcases v0 with v | v | v
  · rw [stepR_hello hg (by rw [hl]; exact v), if_pos rfl]
    obtain ⟨w1, w2⟩ := v1 v
    have hx : x.left.extract ((readR x.left).2.1).toNat x.left.size = fromA fed 68 := by rw [hl, w1]; rfl
    have hdn : x.done + (readR x.left).2.1 = ((68 : Nat) : Int) := by rw [hl, w1, hd]; rfl
    rw [hx, hdn]
    have hfz := from_size fed 68 w2
    have e68 : stA true = 68 := rfl
    refine agree_go (a := 68) (l := []) (es := []) (by omega) (fun _ => by rw [hpc]; exact v) (by rw [e68]) rfl rfl w2 (by show (fromA fed 68).size < n; omega) rfl hw rfl (fun _ => by rw [hpc, hl]) rfl (Nat.le_refl _) hms (by show x.zs.length = x.ms.length; rw [hzs, hms]; rfl) (.inl ⟨rfl, rfl⟩) (by show x.bytes = x.zs.sum; rw [hby, hzs]; rfl) (by show x.bytes = _; rw [hby, e68]; rfl) (fun j hj => by have hj : j < x.zs.length := hj; rw [hzs] at hj; simp at hj)
  · rw [stepR_none hg (by rw [hl]; exact v), if_neg (by simp)]
    have hwn2 := whole_none fed (by rw [hpc]; exact v)
    refine ⟨Nat.zero_le _, by rw [hwn2]; exact hms, by rw [hwn2]; exact hw, by rw [hwn2]; exact ht, (fun h => by have h : x.told = true := h; rw [ht] at h; cases h), ?_, fun _ => ⟨0, Nat.zero_le _, by show x.left = _; rw [hl]; exact (from_zero _).symm, hd, ?_, .inl ⟨hg, ht, rfl, rfl, by rw [hpc]; exact v⟩⟩, fun j hj => by have hj : j < x.zs.length := hj; rw [hzs] at hj; simp at hj⟩
    · show (x.left.size : Int) = _
      unfold leftS
      rw [hwn2, hl, if_neg (by show ¬ (0 : Int) ≤ -1; omega), if_neg (by simp)]
      show _ = (fed.size : Int) - 0
      omega
    · show x.bytes = _
      unfold fromS
      rw [hwn2, hby]; rfl
  · rw [stepR_bad hg (by rw [hl]; exact v), if_neg (by simp), hl]
    have hwn2 := whole_bad fed (by rw [hpc]; exact v)
    have w2 := v2 v
    rw [hpc] at hwn2
    refine ⟨Nat.zero_le _, by rw [hwn2]; exact hms, by rw [hwn2]; show x.done + _ = _; rw [hd]; exact Int.zero_add _, by rw [hwn2]; exact ht, (fun h => by have h : x.told = true := h; rw [ht] at h; cases h), ?_, fun hx => ?_, fun j hj => by have hj : j < x.zs.length := hj; rw [hzs] at hj; simp at hj⟩
    · show (0 : Int) = _
      unfold leftS
      rw [hwn2, if_pos (by exact w2.1)]
    · exfalso
      have hx : x.done + (readR fed).2.2.1 = -1 := hx
      omega
/-- Feed keeps it, and both tell the same. -/
theorem agree_feed {r : Rdr} {B : Nat} {g : Bool} {fed : ByteArray} {t : Nat} (hr : r.Ok B) (h : Agree r g fed t) (s : ByteArray) :
    (feedR r s).2 = (feedS g fed t s).2 ∧ Agree (feedR r s).1 g (feedS g fed t s).1 t := by
  have hwe := whole_ends g fed
  have hz : (fed ++ s).size = fed.size + s.size := ByteArray.size_append
  by_cases h65 : (65536 : Int) < s.size
  · have e1 : feedR r s = (r, 3) := by unfold feedR; rw [if_pos h65]
    have e2 : feedS g fed t s = (fed, 3) := by unfold feedS; rw [if_pos h65]
    rw [e1, e2]; exact ⟨rfl, h⟩
  by_cases hw : (0 : Int) ≤ r.wrong
  · have e1 : feedR r s = (r, 12) := by unfold feedR; rw [if_neg h65, if_pos hw]
    have e2 : feedS g fed t s = (fed, 12) := by unfold feedS; rw [if_neg h65, if_pos (by rw [← h.wrong]; exact hw)]
    rw [e1, e2]; exact ⟨rfl, h⟩
  have hw1 : r.wrong = -1 := by
    rw [h.wrong] at hw ⊢
    exact whole_wrong g fed hw
  obtain ⟨a, ha, hl, hd, hb, hs⟩ := h.live hw1
  have hf0 : 0 ≤ fromS g fed t := by
    unfold fromS
    split
    · rw [List.getD_eq_getElem?_getD]
      cases hq : (wholeR g fed).ends[((t : Int) - 1).toNat]? with
      | none => exact Int.le_refl _
      | some z => exact (hwe.1 z (List.mem_of_getElem? hq)).1
    · exact hwe.2.1
  have hls : r.left.size = fed.size - a := by rw [hl, from_size fed a ha]
  by_cases hbig : (65536 : Int) < (r.left.size : Int) + r.bytes + s.size
  · have e1 : feedR r s = (r, 4) := by unfold feedR; rw [if_neg h65, if_neg hw, if_pos hbig]
    have e2 : feedS g fed t s = (fed, 4) := by unfold feedS; rw [if_neg h65, if_neg (by rw [← h.wrong]; exact hw), if_pos (by omega)]
    rw [e1, e2]; exact ⟨rfl, h⟩
  have hr0 := (hr.bb).1
  have e1 : feedR r s = (feedQ r s, if (0 : Int) ≤ (feedQ r s).wrong then 12 else 0) := by
    unfold feedR; rw [if_neg h65, if_neg hw, if_neg hbig]
  have e2 : feedS g fed t s = (fed ++ s, if (0 : Int) ≤ (wholeR g (fed ++ s)).wrong then 12 else 0) := by
    unfold feedS; rw [if_neg h65, if_neg (by rw [← h.wrong]; exact hw), if_neg (by omega)]
  have key : Agree (feedQ r s) g (fed ++ s) t := by
    unfold feedQ
    have hla : ({ r with left := r.left ++ s } : Rdr).left = fromA (fed ++ s) a := by
      show r.left ++ s = _
      rw [hl, from_app fed s a ha]
    rcases hs with ⟨g1, g2, g3, g4, g5⟩ | ⟨g1, g2, g3⟩
    · subst g3 g4
      have hwn := whole_none fed g5
      have ht0 : t = 0 := by have := h.taken; rw [hwn] at this; exact Nat.le_zero.1 this
      have hms : r.ms = [] := by rw [h.ms, hwn]; exact List.drop_nil
      have hzs : r.zs = [] := List.eq_nil_of_length_eq_zero (by rw [hr.len, hms]; rfl)
      have hby : r.bytes = 0 := by rw [hr.bytes, hzs]; rfl
      subst ht0
      have hfz : fromA (fed ++ s) 0 = fed ++ s := from_zero _
      rw [hfz] at hla
      have hq := hls
      exact agree_greet (by omega) g1 g2 hms hzs hby hd hw1 hla (by omega)
    · obtain ⟨k1, k2⟩ := whole_reads g fed g2
      have hrd2 : g = true → (readR (helloA (fed ++ s))).2.2.2 = 0 := fun hg => by rw [hello_stays fed s (by rw [g2 hg]; omega)]; exact g2 hg
      have hwx : (readAll (fed.size + 1) fed (stA g) [] []).2.2 = -1 := by
        have := h.wrong; rw [k2, hw1] at this; exact this.symm
      have hgo := readAll_app (fed.size + 1) fed s (stA g) [] [] k1 (by omega) hwx
      have hll := readAll_len (fed.size + 1) fed (stA g) [] [] rfl
      have hlast := ends_last (fed.size + 1) fed (stA g) [] [] k1 (by omega)
      have hend : ((readAll (fed.size + 1) fed (stA g) [] []).2.1 = [] ∧ a = stA g) ∨ ((readAll (fed.size + 1) fed (stA g) [] []).2.1 ≠ [] ∧ (readAll (fed.size + 1) fed (stA g) [] []).2.1.getD ((readAll (fed.size + 1) fed (stA g) [] []).2.1.length - 1) 0 = a) := by
        unfold EndOf at g3
        rw [k2] at g3
        rcases g3 with ⟨f1, f2⟩ | ⟨f1, f2⟩
        · left; exact ⟨List.eq_nil_of_length_eq_zero f1, by have f2 : (stA g : Int) = a := f2; omega⟩
        · right; exact ⟨fun h => by have f1 : 0 < (readAll (fed.size + 1) fed (stA g) [] []).2.1.length := f1; rw [h] at f1; simp at f1, f2⟩
      have hpos : posA (fed.size + 1) fed (stA g) = a := by
        rcases hlast with ⟨e1, e2⟩ | ⟨e1, e2⟩
        · rcases hend with ⟨f1, f2⟩ | ⟨f1, f2⟩
          · rw [e2, f2]
          · exact absurd e1 f1
        · rcases hend with ⟨f1, f2⟩ | ⟨f1, f2⟩
          · rw [f1] at e1; simp at e1
          · rw [f2] at e2; omega
      rw [hpos] at hgo
      have q1 := h.taken; have q2 := h.ms; have q3 := h.told; have q4 := h.hello; have q5 := h.ends
      have hfs : fromS g fed t = (if (0 : Int) < t then (readAll (fed.size + 1) fed (stA g) [] []).2.1.getD ((t : Int) - 1).toNat 0 else (stA g : Int)) := by
        unfold fromS; rw [k2]
      rw [hfs] at hb q5
      rw [k2] at q1 q2 q3 q4 q5
      have hhello : g = true → r.hello = (readR (helloA (fed ++ s))).1 := fun hg => by
        have hx : r.hello = if g = true then (readR (helloA fed)).1 else Hs.zero := q4 (by rw [q3]; exact hg)
        rw [hx, if_pos hg, hello_stays fed s (by rw [g2 hg]; omega)]
      exact agree_go (a := a) (by omega) hrd2 hgo g1 hla (by omega) (by show (r.left ++ s).size < _; rw [ByteArray.size_append]; omega) hd hw1 q3 hhello hll q1 q2 hr.len hend hr.bytes hb q5
  rw [e1, e2]
  exact ⟨by show (if _ then _ else _) = (if _ then _ else _); rw [key.wrong], key⟩
/-- A new reader. -/
theorem agree_new (g : Bool) : Agree (newR g) g ⟨#[]⟩ 0 := by
  have e : (⟨#[]⟩ : ByteArray).size = 0 := rfl
  have hf : fromA ⟨#[]⟩ 0 = ⟨#[]⟩ := from_zero _
  cases g with
  | true =>
    have h8 : (readR (helloA ⟨#[]⟩)).2.2.2 = 8 := by decide
    have hw := whole_none ⟨#[]⟩ h8
    refine ⟨Nat.zero_le _, by rw [hw]; rfl, by rw [hw]; rfl, by rw [hw]; rfl, (fun h => by cases h), ?_, fun _ => ⟨0, Nat.zero_le _, hf.symm, rfl, ?_, .inl ⟨rfl, rfl, rfl, rfl, h8⟩⟩, (fun j hj => by simp [newR] at hj)⟩
    · unfold leftS; rw [hw]; rfl
    · unfold fromS; rw [hw]; rfl
  | false =>
    have hp : pieceA ⟨#[]⟩ 0 = ⟨#[]⟩ := rfl
    have hr : readAll ((⟨#[]⟩ : ByteArray).size + 1) ⟨#[]⟩ 0 [] [] = ([], [], -1) := by
      rw [readAll_end (by rw [e]; omega) (by rw [hp, dec_nil]; show ¬ (8 : Int) = 12; omega) (by rw [hp, dec_nil]; show ¬ (8 : Int) = 0; omega)]
    obtain ⟨_, hw⟩ := whole_reads false ⟨#[]⟩ (fun h => by cases h)
    have e0 : stA false = 0 := rfl
    rw [e0, hr] at hw
    refine ⟨Nat.zero_le _, by rw [hw]; rfl, by rw [hw]; rfl, by rw [hw]; rfl, (fun h => by cases h), ?_, fun _ => ⟨0, Nat.zero_le _, hf.symm, rfl, ?_, .inr ⟨rfl, (fun h => by cases h), .inl ⟨by rw [hw]; rfl, by rw [hw]⟩⟩⟩, (fun j hj => by simp [newR] at hj)⟩
    · unfold leftS; rw [hw]; rfl
    · unfold fromS; rw [hw]; rfl
end Go.Proofs.Ytcjmdkklbbollaa
namespace Go.Proofs.Ytcjmdkklbbollaa
open Go.RowKit

theorem eqg23 : Try.prog.eqGuardType Try.prog.depth 23 = false := by kernel_rfl
theorem hs_eql (a b : Hs) (w : World) : (binOp .eql 23 (.agg a.cells) (.agg b.cells)).run Try.prog w = .ok (.bool (decide (a = b))) w := by
  obtain ⟨a0, a1, a2, a3, a4⟩ := a
  obtain ⟨b0, b1, b2, b3, b4⟩ := b
  by_cases h0 : a0 = b0
  · subst h0
    by_cases h1 : a1 = b1
    · subst h1
      by_cases h2 : a2 = b2
      · subst h2
        by_cases h3 : a3 = b3
        · subst h3
          by_cases h4 : a4 = b4
          · subst h4; simp [Hs.cells, go_sem]
          · have := bytes_ne h4; simp [Hs.cells, go_sem, h4, this]
        · have := bytes_ne h3; simp [Hs.cells, go_sem, h3, this]
      · simp [Hs.cells, go_sem, h2]
    · simp [Hs.cells, go_sem, h1]
  · simp [Hs.cells, go_sem, h0]
theorem hs_neq (a b : Hs) (w : World) : (binOp .neq 23 (.agg a.cells) (.agg b.cells)).run Try.prog w = .ok (.bool (!decide (a = b))) w := by
  have h := hs_eql a b w
  rw [run_eql_struct] at h
  rw [run_neq_struct]
  cases hx : (Op.equalIn 10000 23 (.agg a.cells) (.agg b.cells)).run Try.prog w with
  | ok x w' => rw [hx] at h; simp at h; simp [h]
  | halt x w' => rw [hx] at h; simp at h
theorem b_hsN {xo yo : Operand} {w : World} (a b : Hs) : Bin Try.prog .neq 23 xo yo (.agg a.cells) (.agg b.cells) w (.bool (!decide (a = b))) := by
  unfold Bin
  simp only [Sem.run_bind, run_eqGuard_agg w .neq 23 xo yo a.cells b.cells eqg23, Result.andThen_ok]
  exact hs_neq a b w
theorem whole_hello (g : Bool) (fed : ByteArray) : (if (wholeR g fed).greets = true then (wholeR g fed).hello else Hs.zero) = (wholeR g fed).hello := by
  unfold wholeR
  cases g with
  | false => simp
  | true =>
    rw [if_pos rfl]
    by_cases h12 : (readR (helloA fed)).2.2.2 = 12
    · rw [if_pos h12]; rfl
    rw [if_neg h12]
    by_cases h0 : (readR (helloA fed)).2.2.2 = 0
    · rw [if_pos h0]; rfl
    · rw [if_neg h0]; rfl
theorem Agree.hi {r : Rdr} {g : Bool} {fed : ByteArray} {t : Nat} (h : Agree r g fed t) : (if r.told = true then r.hello else Hs.zero) = (wholeR g fed).hello := by
  rw [← whole_hello g fed, ← h.told]
  cases ht : r.told with
  | false => rfl
  | true => exact h.hello ht
theorem Agree.waits {r : Rdr} {g : Bool} {fed : ByteArray} {t : Nat} (h : Agree r g fed t) : (r.ms.length : Int) = ((wholeR g fed).list.length : Int) - (t : Int) := by
  have := h.taken
  rw [h.ms, List.length_drop]; omega
theorem Rdr.Ok.up {r : Rdr} {B C : Nat} (h : r.Ok B) (hC : B ≤ C) (hl : C ≤ 1099511627776) : r.Ok C := by
  obtain ⟨h1, h2, h3, h4, h5, h6, h7, h8⟩ := h
  exact ⟨hl, h2, h3, h4, by omega, by omega, by omega, h8⟩
theorem feed_okB {r : Rdr} {B : Nat} (h : r.Ok B) (s : ByteArray) (hB : B + s.size ≤ 1099511627776) : (feedR r s).1.Ok (B + s.size) := by
  have hup : r.Ok (B + s.size) := by
    obtain ⟨h1, h2, h3, h4, h5, h6, h7, h8⟩ := h
    exact ⟨hB, h2, h3, h4, by omega, by omega, by omega, h8⟩
  unfold feedR
  split
  · exact hup
  split
  · exact hup
  split
  · exact hup
  · rename_i h4
    exact steps_ok _ (h.fed s hB (by omega))
theorem feed_ok' {r : Rdr} {B : Nat} (h : r.Ok B) (s : ByteArray) (hB : B + 65536 ≤ 1099511627776) : (feedR r s).1.Ok (B + 65536) := by
  by_cases hs : (65536 : Int) < s.size
  · have : feedR r s = (r, 3) := by unfold feedR; rw [if_pos hs]
    rw [this]; exact h.up (by omega) hB
  · exact (feed_okB h s (by omega)).up (by omega) hB
theorem feedS_size (g : Bool) (fed : ByteArray) (t : Nat) (s : ByteArray) : (feedS g fed t s).1.size ≤ fed.size + 65536 := by
  by_cases hs : (65536 : Int) < s.size
  · have : feedS g fed t s = (fed, 3) := by unfold feedS; rw [if_pos hs]
    rw [this]; show fed.size ≤ _; omega
  · have : (fed ++ s).size = fed.size + s.size := ByteArray.size_append
    unfold feedS
    rw [if_neg hs]
    split
    · show fed.size ≤ _; omega
    split
    · show fed.size ≤ _; omega
    · show (fed ++ s).size ≤ _; omega
/-- A deed. -/
structure De where
  text : ByteArray
  take : Int
def De.cellsL (d : De) : List Value := [.string d.text, .int .i64 d.take]
def desV (l : List De) : List Value := l.flatMap De.cellsL
end Go.Proofs.Ytcjmdkklbbollaa
