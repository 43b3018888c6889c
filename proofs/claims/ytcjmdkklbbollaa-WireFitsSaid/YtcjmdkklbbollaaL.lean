import Derived.Test.YtcjmdkklbbollaaK
import Derived.WalkSpells
set_option linter.unusedSimpArgs false
set_option linter.unusedVariables false
namespace Go.Proofs.Ytcjmdkklbbollaa
open Go.RowKit

/-- The byte at a place, 0 behind the end. -/
def bt (s : ByteArray) (i : Nat) : Nat := (s.data.toList[i]?.getD 0).toNat
theorem bt_get (s : ByteArray) (i : Nat) (h : i < s.size) : (s[i]'h).toNat = bt s i := by
  unfold bt
  rw [List.getElem?_eq_getElem (by simpa using h)]
  rfl
theorem bt_lt (s : ByteArray) (i : Nat) : bt s i < 256 := UInt8.toNat_lt _
def goodH (i c : Nat) : Bool :=
  if i < 20 then c == (greeting[i]?.getD 0).toNat else if i = 25 then c == 0 || c == 16 else if i = 27 then c == 0 || c == 4 || c == 16 || c == 20 else c == 0
def GoodTo (s : ByteArray) (k : Nat) : Prop := ∀ j, j < k → goodH j (bt s j) = true
theorem GoodTo.snoc {s : ByteArray} {k : Nat} (h : GoodTo s k) (hk : goodH k (bt s k) = true) : GoodTo s (k + 1) := by
  intro j hj
  rcases Nat.lt_or_ge j k with h1 | h1
  · exact h j h1
  · obtain rfl : j = k := by omega
    exact hk
def mayB : Nat → Int | 5 => 16 | 7 => 20 | _ => 0
theorem mayB_good (i c : Nat) (hi : i < 8) (hc : c < 256) : (bits BinOp.andNot IntKind.u8 (c : Int) (mayB i) != 0) = !goodH (i + 20) c := by
  have h : ∀ (i : Fin 8) (c : Fin 256), (bits BinOp.andNot IntKind.u8 ((c : Nat) : Int) (mayB i) != 0) = !goodH ((i : Nat) + 20) (c : Nat) := by decide +kernel
  exact h ⟨i, hi⟩ ⟨c, hc⟩
def Hs.zero : Hs := ⟨false, false, false, ⟨#[]⟩, ⟨#[]⟩⟩
def badAt (s : ByteArray) : Option Nat := (List.range (min s.size 28)).find? fun i => !goodH i (bt s i)
def gotH (s : ByteArray) : Hs := ⟨bt s 25 == 16, bt s 27 == 4 || bt s 27 == 20, bt s 27 == 16 || bt s 27 == 20, s.extract 28 48, s.extract 48 68⟩
def readR (s : ByteArray) : Hs × Int × Int × Int :=
  if 65536 < s.size then (Hs.zero, 0, 0, 3) else
  match badAt s with
  | some i => (Hs.zero, 0, i, 12)
  | none => if s.size < 68 then (Hs.zero, 0, s.size, 8) else (gotH s, 68, -1, 0)
theorem badAt_some {s : ByteArray} {k : Nat} (h : GoodTo s k) (h1 : k < 28) (h2 : k < s.size) (hb : goodH k (bt s k) = false) : badAt s = some k := by
  unfold badAt
  refine List.find?_eq_some_iff_getElem.2 ⟨by simp [hb], k, by simp; omega, by simp, fun j hj => ?_⟩
  simp [h j hj]
theorem badAt_none {s : ByteArray} {k : Nat} (h : GoodTo s k) (hk : ¬ (k < 28 ∧ k < s.size)) : badAt s = none := by
  unfold badAt
  refine List.find?_eq_none.2 fun j hj => ?_
  simp only [List.mem_range] at hj
  simp [h j (by omega)]
theorem greet_get (k : Nat) (h : k < 20) : ((⟨#[19, 99, 111, 118, 101, 121, 32, 112, 101, 101, 114, 32, 112, 114, 111, 116, 111, 99, 111, 108]⟩ : ByteArray)[k]'h).toNat = (greeting[k]?.getD 0).toNat := by
  rw [bt_get]; rfl
def mayCells : Array Value := #[.int .u8 0, .int .u8 0, .int .u8 0, .int .u8 0, .int .u8 0, .int .u8 16, .int .u8 0, .int .u8 20]
theorem may_cell (i : Nat) (h : i < 8) : mayCells[i]? = some (.int .u8 (mayB i)) := by
  rcases (by omega : i = 0 ∨ i = 1 ∨ i = 2 ∨ i = 3 ∨ i = 4 ∨ i = 5 ∨ i = 6 ∨ i = 7) with rfl | rfl | rfl | rfl | rfl | rfl | rfl | rfl <;> rfl

theorem and27 (c : Nat) (hc : c < 256) (h : goodH 27 c = true) : (bits BinOp.and IntKind.u8 (c : Int) 4 != 0) = (c == 4 || c == 20) ∧ (bits BinOp.and IntKind.u8 (c : Int) 16 != 0) = (c == 16 || c == 20) := by
  have h' : ∀ c : Fin 256, goodH 27 (c : Nat) = true → (bits BinOp.and IntKind.u8 ((c : Nat) : Int) 4 != 0) = ((c : Nat) == 4 || (c : Nat) == 20) ∧ (bits BinOp.and IntKind.u8 ((c : Nat) : Int) 16 != 0) = ((c : Nat) == 16 || (c : Nat) == 20) := by decide +kernel
  exact h' ⟨c, hc⟩ h
set_option maxRecDepth 20000 in
set_option maxHeartbeats 4000000 in
theorem readHello_p (s : ByteArray) (w : World) : Calls Try.prog 13 #[.string s] w fun e w' => e = .returned (.tuple #[.agg (readR s).1.cells, .int .i64 (readR s).2.1, .int .i64 (readR s).2.2.1, .int .i64 (readR s).2.2.2]) ∧ Sub w w' := by
  by_cases hl : (65536 : Int) < s.size
  · have e : readR s = (Hs.zero, 0, 0, 3) := by rw [readR, if_pos (by omega)]
    rw [e]
    clear e
    go_enter Try.func13, Try.ntmps13
    go_wp2_with fail
    exact bodyPost_ret (v := .tuple #[.agg Hs.zero.cells, .int .i64 0, .int .i64 0, .int .i64 3]) (by simp [results, Try.results13, go_sem, Hs.cells, Hs.zero]) rfl ⟨rfl, Sub.al Sub.rfl' _⟩
  · by_cases h28 : (s.size : Int) ≤ 28
    all_goals
      go_enter Try.func13, Try.ntmps13
      go_wp2_with fail
      go_loopw [16] (fun i wr => ∃ k : Nat, k ≤ 28 ∧ k ≤ s.size ∧ i = .int .i64 k ∧ GoodTo s k ∧ Blk wr w.heap.size 23 Hs.zero.cells ∧ Blk wr (w.heap.size + 1) 68 mayCells ∧ Sub w wr) (fun i _ => 28 - (intOf i).toNat)
      case atStart =>
        have hB2 := Blk.new (w.alloc (.cells Hs.zero.cells 23)) 68 mayCells
        rw [World.size_alloc] at hB2
        exact ⟨0, by omega, by omega, rfl, fun j hj => by omega, (Blk.new w 23 Hs.zero.cells).alloc _, hB2, Sub.al (Sub.al Sub.rfl' _) _⟩
      case round =>
        obtain ⟨k, hk, hks, rfl, hgood, hB1, hB2, hsub⟩ := hrel
        have Hgood := Lib.hid hgood; clear hgood
        have z0 : wr.cell? ⟨w.heap.size, 0, none⟩ = some (.bool false) := by rw [hB1.cell]; rfl
        have z1 : wr.cell? ⟨w.heap.size, 1, none⟩ = some (.bool false) := by rw [hB1.cell]; rfl
        have z2 : wr.cell? ⟨w.heap.size, 2, none⟩ = some (.bool false) := by rw [hB1.cell]; rfl
        have z3 : wr.cell? ⟨w.heap.size, 3, none⟩ = some (.string ⟨#[]⟩) := by rw [hB1.cell]; rfl
        have z4 : wr.cell? ⟨w.heap.size, 4, none⟩ = some (.string ⟨#[]⟩) := by rw [hB1.cell]; rfl
        have f0 := hB1.frozen 0
        have f1 := hB1.frozen 1
        have f2 := hB1.frozen 2
        have f3 := hB1.frozen 3
        have f4 := hB1.frozen 4
        have hlt1 := hB1.lt
        have HB1 := Lib.hid hB1; clear hB1
        have HB2 := Lib.hid hB2; clear hB2
        have Hsub := Lib.hid hsub; clear hsub
        by_cases hlt : k < 28 ∧ k < s.size
        · obtain ⟨hk1, hk2⟩ := hlt
          have hbt := bt_get s k hk2
          have hb256 := bt_lt s k
          by_cases h20 : (k : Int) < 20
          · have hgr := greet_get k (by omega)
            by_cases hg : goodH k (bt s k) = true
            · have hc : (((s[k]'hk2).toNat : Int) != ((⟨#[19, 99, 111, 118, 101, 121, 32, 112, 101, 101, 114, 32, 112, 114, 111, 116, 111, 99, 111, 108]⟩ : ByteArray)[k]'(show k < 20 by omega)).toNat) = false := by
                rw [hbt, hgr]
                simp only [goodH, if_pos (show k < 20 by omega), beq_iff_eq] at hg
                simp [hg]
              have Hg := Lib.hid hg; clear hg hbt hgr
              have h20n : decide ((20 : Int) ≤ k) = false := by simp; omega
              go_wp2_with fail
              go_quiet (fail)
              go_wp2_with fail
              go_roundw
              case rel => exact ⟨k + 1, by omega, by omega, by go_num, Hgood.out.snoc Hg.out, HB1.out.drewN _, HB2.out.drewN _, Hsub.out.drawn _⟩
              case measure => simp [intOf]; omega
            · have hg' : goodH k (bt s k) = false := by simpa using hg
              have hc : (((s[k]'hk2).toNat : Int) != ((⟨#[19, 99, 111, 118, 101, 121, 32, 112, 101, 101, 114, 32, 112, 114, 111, 116, 111, 99, 111, 108]⟩ : ByteArray)[k]'(show k < 20 by omega)).toNat) = true := by
                rw [hbt, hgr]
                simp only [goodH, if_pos (show k < 20 by omega), beq_iff_eq] at hg
                simp; omega
              have hfin : readR s = (Hs.zero, 0, (k : Int), 12) := by rw [readR, if_neg (by omega), badAt_some Hgood.out hk1 hk2 hg']
              have Hfin := Lib.hid hfin; clear hfin hg hg' hbt hgr
              go_wp2_with fail
              go_quiet (fail)
              go_wp2_with fail
              rw [Hfin.out]
              refine bodyPost_ret (v := .tuple #[.agg Hs.zero.cells, .int .i64 0, .int .i64 k, .int .i64 12]) (by simp [results, Try.results13, go_sem, Hs.cells, Hs.zero, *]) rfl ⟨rfl, ?_⟩
              iterate 5 refine Below.setCell ?_ (by exact Nat.le_refl _) _
              exact Hsub.out.drawn _
          · have hk20 : 20 ≤ k := by omega
            have h20d : decide ((k : Int) < 20) = false := by simp; omega
            have h20i : (20 : Int) ≤ k := by omega
            have hmc : wr.cell? ⟨w.heap.size + 1, k - 20, none⟩ = some (.int .u8 (mayB (k - 20))) := by rw [HB2.out.cell]; exact may_cell _ (by omega)
            have hmg := mayB_good (k - 20) (bt s k) (by omega) hb256
            rw [← hbt, show k - 20 + 20 = k from by omega] at hmg
            have hlt2 := HB2.out.lt
            by_cases hg : goodH k (bt s k) = true
            · have hg2 := hg
              rw [← hbt] at hg2
              rw [hg2] at hmg
              have hc : (bits BinOp.andNot IntKind.u8 ((s[k]'hk2).toNat : Int) (mayB (k - 20)) != 0) = false := hmg
              have Hg := Lib.hid hg; clear hg hg2 hbt hmg h20
              go_wp2_with fail
              go_quiet (fail)
              go_wp2_with fail
              go_roundw
              case rel => exact ⟨k + 1, by omega, by omega, by go_num, Hgood.out.snoc Hg.out, HB1.out.drewN _, HB2.out.drewN _, Hsub.out.drawn _⟩
              case measure => simp [intOf]; omega
            · have hg' : goodH k (bt s k) = false := by simpa using hg
              have hfin : readR s = (Hs.zero, 0, (k : Int), 12) := by rw [readR, if_neg (by omega), badAt_some Hgood.out hk1 hk2 hg']
              have hg2 := hg'
              rw [← hbt] at hg2
              rw [hg2] at hmg
              have hc : (bits BinOp.andNot IntKind.u8 ((s[k]'hk2).toNat : Int) (mayB (k - 20)) != 0) = true := hmg
              have Hfin := Lib.hid hfin; clear hfin hg hg' hg2 hbt hmg h20
              go_wp2_with fail
              go_quiet (fail)
              go_wp2_with fail
              rw [Hfin.out]
              refine bodyPost_ret (v := .tuple #[.agg Hs.zero.cells, .int .i64 0, .int .i64 k, .int .i64 12]) (by simp [results, Try.results13, go_sem, Hs.cells, Hs.zero, *]) rfl ⟨rfl, ?_⟩
              iterate 5 refine Below.setCell ?_ (by exact Nat.le_refl _) _
              exact Hsub.out.drawn _
        · by_cases h68 : (s.size : Int) < 68
          · have hfin : readR s = (Hs.zero, 0, (s.size : Int), 8) := by rw [readR, if_neg (by omega), badAt_none Hgood.out hlt]; simp only; rw [if_pos (by omega)]
            have Hfin := Lib.hid hfin; clear hfin
            rcases (by omega : (s.size ≤ 28 ∧ k = s.size) ∨ (28 < s.size ∧ k = 28)) with ⟨a1, a2⟩ | ⟨a1, a2⟩
            all_goals first | (exfalso; omega) | skip
            all_goals
              subst a2
              clear hlt
              go_wp2_with fail
              rw [Hfin.out]
              refine bodyPost_ret (v := .tuple #[.agg Hs.zero.cells, .int .i64 0, .int .i64 s.size, .int .i64 8]) (by simp [results, Try.results13, go_sem, Hs.cells, Hs.zero, *]) rfl ⟨rfl, ?_⟩
              iterate 5 refine Below.setCell ?_ (by exact Nat.le_refl _) _
              exact Hsub.out
          · have hs68 : 68 ≤ s.size := by omega
            try (exfalso; omega)
            all_goals
              have hfin : readR s = (gotH s, 68, -1, 0) := by rw [readR, if_neg (by omega), badAt_none Hgood.out hlt]; simp only; rw [if_neg (by omega)]
              have hg27 := Hgood.out 27 (by omega)
              have hg25 := bt_get s 25 (by omega)
              have hb27 := bt_get s 27 (by omega)
              obtain ⟨e4, e16⟩ := and27 (bt s 27) (bt_lt s 27) hg27
              have c1 : (bits BinOp.and IntKind.u8 ((s[27]'(by omega)).toNat : Int) 4 != 0) = (bt s 27 == 4 || bt s 27 == 20) := by rw [hb27]; exact e4
              have c2 : (bits BinOp.and IntKind.u8 ((s[27]'(by omega)).toNat : Int) 16 != 0) = (bt s 27 == 16 || bt s 27 == 20) := by rw [hb27]; exact e16
              have c0 : (((s[25]'(by omega)).toNat : Int) == 16) = (bt s 25 == 16) := by rw [hg25, Bool.eq_iff_iff]; simp; omega
              have Hfin := Lib.hid hfin; clear hfin hg27 hg25 hb27 e4 e16
              obtain rfl : k = 28 := by omega
              clear hlt
              generalize hx0 : (bt s 25 == 16) = x0 at c0
              generalize hx1 : (bt s 27 == 4 || bt s 27 == 20) = x1 at c1
              generalize hx2 : (bt s 27 == 16 || bt s 27 == 20) = x2 at c2
              have HX := Lib.hid (And.intro hx0 (And.intro hx1 hx2)); clear hx0 hx1 hx2
              go_wp2_with fail
              have h48 : 48 ≤ s.size := by omega
              have i68 : (68 : Int) ≤ s.size := by omega
              have i48 : (48 : Int) ≤ s.size := by omega
              have i25 : (25 : Int) < s.size := by omega
              have i27 : (27 : Int) < s.size := by omega
              go_region
              all_goals
                go_wp2_with fail
                rw [Hfin.out]
                refine bodyPost_ret (v := .tuple #[.agg (gotH s).cells, .int .i64 68, .int .i64 (-1), .int .i64 0]) ?_ rfl ⟨rfl, ?_⟩
                · simp [results, Try.results13, go_sem, Hs.cells, gotH, HX.out.1, HX.out.2.1, HX.out.2.2, *]
                · refine Sub.drew' ?_
                  iterate 5 refine Below.setCell ?_ (by exact Nat.le_refl _) _
                  exact Hsub.out
end Go.Proofs.Ytcjmdkklbbollaa
