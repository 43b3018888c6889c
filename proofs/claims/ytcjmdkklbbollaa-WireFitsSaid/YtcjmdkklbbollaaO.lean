import Derived.Test.YtcjmdkklbbollaaN
set_option linter.unusedSimpArgs false
set_option linter.unusedVariables false
namespace Go.Proofs.Ytcjmdkklbbollaa
open Go.RowKit

/-! The plain law: a handshake that was written is read back. -/
def p28 (e f n : Bool) : List UInt8 := greeting ++ [0, 0, 0, 0, 0, if e then 16 else 0, 0, flag7 f n]
theorem p28_good : ∀ (e f n : Bool) (i : Fin 28), goodH i (((p28 e f n)[(i : Nat)]?.getD 0).toNat) = true := by decide
theorem p28_got : ∀ e f n : Bool, ((((p28 e f n)[25]?.getD 0).toNat == 16) = e) ∧ ((((p28 e f n)[27]?.getD 0).toNat == 4 || ((p28 e f n)[27]?.getD 0).toNat == 20) = f) ∧ ((((p28 e f n)[27]?.getD 0).toNat == 16 || ((p28 e f n)[27]?.getD 0).toNat == 20) = n) := by decide
theorem extract_list (s : ByteArray) (a b : Nat) : (s.extract a b).data.toList = (s.data.toList.take b).drop a := by
  rw [ByteArray.data_extract, Array.toList_extract, List.extract_eq_take_drop, List.drop_take]

theorem read_hello (h : Hs) (s : ByteArray) (hv : validH h = true) (hs : s.size < 300) : readR ((⟨(helloB h).toArray⟩ : ByteArray) ++ s) = (h, 68, -1, 0) := by
  obtain ⟨e, f, n, nm, pr⟩ := h
  simp only [validH, Bool.and_eq_true, decide_eq_true_eq] at hv
  obtain ⟨h1, h2⟩ := hv
  have hX : ((⟨(helloB ⟨e, f, n, nm, pr⟩).toArray⟩ : ByteArray) ++ s).data.toList = p28 e f n ++ (nm.data.toList ++ (pr.data.toList ++ s.data.toList)) := by
    simp [helloB, p28]
  have l0 : (p28 e f n).length = 28 := by simp [p28, greeting]
  have l1 : nm.data.toList.length = 20 := by simpa using h1
  have l2 : pr.data.toList.length = 20 := by simpa using h2
  have hsz : ((⟨(helloB ⟨e, f, n, nm, pr⟩).toArray⟩ : ByteArray) ++ s).size = 68 + s.size := by
    have h3 := congrArg List.length hX
    simp only [List.length_append, l0, l1, l2, Array.length_toList] at h3
    have h4 : s.data.size = s.size := rfl
    have h5 : ((⟨(helloB ⟨e, f, n, nm, pr⟩).toArray⟩ : ByteArray) ++ s).data.size = ((⟨(helloB ⟨e, f, n, nm, pr⟩).toArray⟩ : ByteArray) ++ s).size := rfl
    omega
  generalize ((⟨(helloB ⟨e, f, n, nm, pr⟩).toArray⟩ : ByteArray) ++ s) = X at *
  have hbt : ∀ i, i < 28 → bt X i = ((p28 e f n)[i]?.getD 0).toNat := by
    intro i hi
    unfold bt
    rw [hX, List.getElem?_append_left (by omega)]
  have hgood : GoodTo X 28 := fun j hj => by rw [hbt j hj]; exact p28_good e f n ⟨j, hj⟩
  have hgot : gotH X = ⟨e, f, n, nm, pr⟩ := by
    obtain ⟨g1, g2, g3⟩ := p28_got e f n
    unfold gotH
    rw [hbt 25 (by omega), hbt 27 (by omega), g1, g2, g3]
    congr 1
    · apply ByteArray.ext
      rw [← Array.toList_inj, extract_list, hX, List.drop_take, List.drop_append_of_le_length (by omega), List.drop_of_length_le (by omega)]
      simp [List.take_append_of_le_length, l1]
    · apply ByteArray.ext
      rw [← Array.toList_inj, extract_list, hX, List.drop_take, ← List.append_assoc, List.drop_append_of_le_length (by simp; omega), List.drop_of_length_le (by simp; omega)]
      simp [List.take_append_of_le_length, l2]
  rw [readR, if_neg (by omega), badAt_none hgood (by omega)]
  simp only
  rw [if_neg (by omega), hgot]

theorem cells5 {w : World} {g : Nat} {e f n : Bool} {a b : ByteArray} (h : Blk w g 23 #[.bool e, .bool f, .bool n, .string a, .string b]) :
    w.cell? ⟨g, 0, none⟩ = some (.bool e) ∧ w.cell? ⟨g, 1, none⟩ = some (.bool f) ∧ w.cell? ⟨g, 2, none⟩ = some (.bool n) ∧ w.cell? ⟨g, 3, none⟩ = some (.string a) ∧ w.cell? ⟨g, 4, none⟩ = some (.string b) := by
  refine ⟨?_, ?_, ?_, ?_, ?_⟩ <;> rw [h.cell] <;> rfl

set_option maxRecDepth 40000 in
set_option maxHeartbeats 4000000 in
theorem hellos_walk (h : Hs) (s : ByteArray) (w : World) (hrt : validH h = true → s.size < 300 → readR ((⟨(helloB h).toArray⟩ : ByteArray) ++ s) = (h, 68, -1, 0)) :
    Calls Try.prog 3 #[.agg h.cells, .string s] w fun e w' => e = .returned (.bool true) ∧ Sub w w' := by
  have Hrt := Lib.hid hrt; clear hrt
  by_cases hbig : 100 < h.name.size ∨ 100 < h.peer.size ∨ (300 < s.size ∧ s.size ≤ 65536)
  · have hcs : (100 : Int) < h.name.size ∨ (¬ (100 : Int) < h.name.size ∧ (100 : Int) < h.peer.size) ∨ (¬ (100 : Int) < h.name.size ∧ ¬ (100 : Int) < h.peer.size ∧ (300 : Int) < s.size ∧ (s.size : Int) ≤ 65536) := by omega
    clear hbig
    obtain ⟨he, hf, hn, hnm, hpr⟩ := h
    unfold Hs.cells
    simp only at hcs ⊢
    rcases hcs with c1 | ⟨c1, c2⟩ | ⟨c1, c2, c3, c4⟩
    all_goals
      go_enter Try.func3, Try.ntmps3
      go_wp2_with fail
      refine (awake_p _).mono ?_; rintro e7 w7 ⟨rfl, hb7⟩
      have HE := Lib.hid ((Sub.al Sub.rfl' _).tr hb7); clear hb7
      go_wp2_with fail
      go_ret
      exact ⟨rfl, HE.out⟩
  · have hn1 : ¬ (100 : Int) < h.name.size := by omega
    have hn2 : ¬ (100 : Int) < h.peer.size := by omega
    have hcase : ((s.size : Int) ≤ 300 ∧ True) ∨ ((300 : Int) < s.size ∧ ¬ (s.size : Int) ≤ 65536) := by
      by_cases h : (s.size : Int) ≤ 300
      · exact .inl ⟨h, trivial⟩
      · exact .inr ⟨by omega, by omega⟩
    clear hbig
    have P1 := Lib.hid (fun w => hello_p h w)
    have P2 := Lib.hid (fun w => hello_r h w)
    have P3 := Lib.hid (fun w => readHello_p s w)
    have P4 := Lib.hid (fun w => readHello_r s w)
    have P5 := Lib.hid (fun w => validHello_p h w)
    have P6 := Lib.hid (fun w => validHello_r h w)
    generalize hr : readR s = r at *
    have Hr := Lib.hid hr; clear hr
    obtain ⟨⟨e, f, n, nm, pr⟩, u, b, er⟩ := r
    obtain ⟨he, hf, hn, hnm, hpr⟩ := h
    unfold Hs.cells at P1 P2 P3 P4 P5 P6 ⊢
    simp only at P1 P2 P3 P4 P5 P6 hn1 hn2 ⊢
    generalize hhv : validH ⟨he, hf, hn, hnm, hpr⟩ = hv at *
    have Hhv := Lib.hid hhv; clear hhv
    generalize hhr : helloR ⟨he, hf, hn, hnm, hpr⟩ = hr at *
    have Hhr := Lib.hid hhr; clear hhr
    obtain ⟨hb, hE⟩ := hr
    simp only at P1 P2 P3 P4 P5 P6
    have hcv : (hv = true ∧ hE = 0) ∨ (hv = false ∧ hE = 1) := by
      have h1 := Hhr.out
      have h2 := Hhv.out
      unfold helloR at h1
      cases hv
      · rw [h2] at h1; simp at h1; exact .inr ⟨rfl, h1.2.symm⟩
      · rw [h2] at h1; simp at h1; exact .inl ⟨rfl, h1.2.symm⟩
    have hend : (hE = 0 ∧ s.size < 300) ∨ (¬ hE = 0) ∨ (hE = 0 ∧ ¬ (s.size : Int) < 300) := by omega
    have Hcv := Lib.hid hcv; clear hcv
    have Hend := Lib.hid hend; clear hend
    rcases hcase with ⟨hc1, hc2⟩ | ⟨hc1, hc2⟩
    all_goals
      go_enter Try.func3, Try.ntmps3
      go_wp2_with fail
      refine (P1.out _).mono ?_; rintro e1 w1 ⟨rfl, hb1⟩
      have hB := (Blk.new w 23 _).sub hb1
      have Hb1 := Lib.hid hb1; clear hb1
      obtain ⟨k0, k1, k2, k3, k4⟩ := cells5 hB
      have HB1 := Lib.hid hB; clear hB
      go_wp2_with fail
      clear k0 k1 k2 k3 k4
      refine (P2.out _).mono ?_; rintro e2 w2 ⟨rfl, hb2⟩
      have HB2 := Lib.hid (HB1.out.sub hb2)
      have Hb2 := Lib.hid hb2; clear hb2
      go_wp2_with fail
      refine (P3.out _).mono ?_; rintro e3 w3 ⟨rfl, hb3⟩
      have HB3 := Lib.hid (HB2.out.sub hb3)
      have Hb3 := Lib.hid hb3; clear hb3
      go_wp2_with fail
      refine (P4.out _).mono ?_; rintro e4 w4 ⟨rfl, hb4⟩
      have HB4 := Lib.hid ((HB3.out.alloc _).sub hb4)
      have HX4 := Lib.hid ((Blk.new w3 23 #[.bool e, .bool f, .bool n, .string nm, .string pr]).sub hb4)
      have Hb4 := Lib.hid hb4; clear hb4
      have hlt4 : w3.heap.size < w4.heap.size := HX4.out.lt
      go_wp2_with fail
      have HC4 := Lib.hid (HB4.out.alloc (.cells #[.bool e, .bool f, .bool n, .string nm, .string pr] 23))
      have HY4 := Lib.hid (HX4.out.alloc (.cells #[.bool e, .bool f, .bool n, .string nm, .string pr] 23))
      have HZ4 := Lib.hid (Blk.new w4 23 #[.bool e, .bool f, .bool n, .string nm, .string pr])
      have HS := Lib.hid (((((((Sub.al Sub.rfl' _).tr Hb1.out).tr Hb2.out).tr Hb3.out).al _).tr Hb4.out).al (.cells #[.bool e, .bool f, .bool n, .string nm, .string pr] 23))
      generalize w4.alloc (.cells #[.bool e, .bool f, .bool n, .string nm, .string pr] 23) = W0 at *
      have hS : ∀ w', Sub W0 w' → (((w'.cell? ⟨w.heap.size, 0, none⟩ = some (.bool he) ∧ w'.cell? ⟨w.heap.size, 1, none⟩ = some (.bool hf) ∧ w'.cell? ⟨w.heap.size, 2, none⟩ = some (.bool hn) ∧ w'.cell? ⟨w.heap.size, 3, none⟩ = some (.string hnm) ∧ w'.cell? ⟨w.heap.size, 4, none⟩ = some (.string hpr)) ∧
          (w'.cell? ⟨w3.heap.size, 0, none⟩ = some (.bool e) ∧ w'.cell? ⟨w3.heap.size, 1, none⟩ = some (.bool f) ∧ w'.cell? ⟨w3.heap.size, 2, none⟩ = some (.bool n) ∧ w'.cell? ⟨w3.heap.size, 3, none⟩ = some (.string nm) ∧ w'.cell? ⟨w3.heap.size, 4, none⟩ = some (.string pr))) ∧
          (w'.cell? ⟨w4.heap.size, 0, none⟩ = some (.bool e) ∧ w'.cell? ⟨w4.heap.size, 1, none⟩ = some (.bool f) ∧ w'.cell? ⟨w4.heap.size, 2, none⟩ = some (.bool n) ∧ w'.cell? ⟨w4.heap.size, 3, none⟩ = some (.string nm) ∧ w'.cell? ⟨w4.heap.size, 4, none⟩ = some (.string pr))) :=
        fun w' h => ⟨⟨cells5 (HC4.out.sub h), cells5 (HY4.out.sub h)⟩, cells5 (HZ4.out.sub h)⟩
      have HSS := Lib.hid hS
      obtain ⟨⟨⟨a0, a1, a2, a3, a4⟩, c0, c1, c2, c3, c4⟩, d0, d1, d2, d3, d4⟩ := hS W0 Sub.rfl'
      clear hS
      go_region_held3 (fun w' => (((w'.cell? ⟨w.heap.size, 0, none⟩ = some (.bool he) ∧ w'.cell? ⟨w.heap.size, 1, none⟩ = some (.bool hf) ∧ w'.cell? ⟨w.heap.size, 2, none⟩ = some (.bool hn) ∧ w'.cell? ⟨w.heap.size, 3, none⟩ = some (.string hnm) ∧ w'.cell? ⟨w.heap.size, 4, none⟩ = some (.string hpr)) ∧
          (w'.cell? ⟨w3.heap.size, 0, none⟩ = some (.bool e) ∧ w'.cell? ⟨w3.heap.size, 1, none⟩ = some (.bool f) ∧ w'.cell? ⟨w3.heap.size, 2, none⟩ = some (.bool n) ∧ w'.cell? ⟨w3.heap.size, 3, none⟩ = some (.string nm) ∧ w'.cell? ⟨w3.heap.size, 4, none⟩ = some (.string pr))) ∧
          (w'.cell? ⟨w4.heap.size, 0, none⟩ = some (.bool e) ∧ w'.cell? ⟨w4.heap.size, 1, none⟩ = some (.bool f) ∧ w'.cell? ⟨w4.heap.size, 2, none⟩ = some (.bool n) ∧ w'.cell? ⟨w4.heap.size, 3, none⟩ = some (.string nm) ∧ w'.cell? ⟨w4.heap.size, 4, none⟩ = some (.string pr))))
        (first | exact HSS.out _ Sub.rfl'.drew' | exact HSS.out _ hA.undrew | exact HSS.out _ (hA.undrew.tr hB))
        (first | (go_at_call 15; refine (P5.out _).mono ?_; rintro e5 wA ⟨rfl, hA⟩) | (go_at_call 16; refine (P6.out _).mono ?_; rintro e6 wB ⟨rfl, hB⟩))
      have HWB := Lib.hid (hA.undrew.tr hB); clear hA hB
      have HF := Lib.hid (HC4.out.sub HWB.out)
      have HSB := Lib.hid (HS.out.tr HWB.out)
      clear a0 a1 a2 a3 a4 c0 c1 c2 c3 c4 d0 d1 d2 d3 d4
      obtain ⟨k0, k1, k2, k3, k4⟩ := cells5 HF.out
      rcases Hend.out with ⟨hE0, hs3⟩ | hE0 | ⟨hE0, hs3⟩
      · try (exfalso; omega)
        all_goals
          subst hE0
          have hsi : (s.size : Int) < 300 := by omega
          have hvt : hv = true ∧ hb = helloB ⟨he, hf, hn, hnm, hpr⟩ := by
            rcases Hcv.out with ⟨h1, _⟩ | ⟨_, h2⟩
            · refine ⟨h1, ?_⟩
              have h3 := Hhr.out
              rw [helloR, Hhv.out, h1] at h3
              exact (congrArg Prod.fst h3).symm
            · cases h2
          have hrd : readR ((⟨hb.toArray⟩ : ByteArray) ++ s) = (⟨he, hf, hn, hnm, hpr⟩, 68, -1, 0) := by
            rw [hvt.2]; exact Hrt.out (by first | exact hvt.1 | (rw [Hhv.out]; exact hvt.1)) hs3
          have hlen : hb.length ≤ 300 := by
            rw [hvt.2]
            have h3 := Hhv.out
            rw [hvt.1] at h3
            simp [validH] at h3
            simp [helloB, greeting]
            omega
          have hlen2 : (⟨hb.toArray⟩ : ByteArray).size ≤ 300 := by simpa [ByteArray.size] using hlen
          have P7 := Lib.hid (fun w => readHello_p ((⟨hb.toArray⟩ : ByteArray) ++ s) w)
          rw [hrd] at P7
          unfold Hs.cells at P7
          simp only at P7
          clear hvt hrd
          go_wp2_with fail
          refine (P7.out _).mono ?_; rintro e7 w7 ⟨rfl, hb7⟩
          have HF7 := Lib.hid (HF.out.sub hb7)
          have HS7 := Lib.hid (HSB.out.tr hb7); clear hb7
          clear k0 k1 k2 k3 k4
          obtain ⟨k0, k1, k2, k3, k4⟩ := cells5 HF7.out
          have hltF := HF7.out.lt
          go_wp2_with fail
          refine (awake_p _).mono ?_; rintro e8 w8 ⟨rfl, hb8⟩
          have HE := Lib.hid ((HS7.out.al _).tr hb8); clear hb8
          go_wp2_with fail
          go_ret
          exact ⟨rfl, HE.out⟩
      · have tE : (hE == 0) = false := by simpa using hE0
        clear hE0
        go_wp2_with fail
        refine (awake_p _).mono ?_; rintro e7 w7 ⟨rfl, hb7⟩
        have HE := Lib.hid (HSB.out.tr hb7); clear hb7
        go_wp2_with fail
        go_ret
        exact ⟨rfl, HE.out⟩
      · subst hE0
        go_wp2_with fail
        refine (awake_p _).mono ?_; rintro e7 w7 ⟨rfl, hb7⟩
        have HE := Lib.hid (HSB.out.tr hb7); clear hb7
        go_wp2_with fail
        go_ret
        exact ⟨rfl, HE.out⟩
end Go.Proofs.Ytcjmdkklbbollaa
