import Derived.Test.YtdkfkdekiljcoaaSZ
set_option linter.unusedSimpArgs false
set_option linter.unusedVariables false
namespace Go.Proofs.Ytdkfkdekiljcoaa
open Go.RowKit

theorem cl42 : callable Try.prog 42 = true := by kernel_rfl
theorem cl44 : callable Try.prog 44 = true := by kernel_rfl
theorem cl45 : callable Try.prog 45 = true := by kernel_rfl
theorem cl46 : callable Try.prog 46 = true := by kernel_rfl
theorem cl47 : callable Try.prog 47 = true := by kernel_rfl
theorem cl48 : callable Try.prog 48 = true := by kernel_rfl
theorem cl50 : callable Try.prog 50 = true := by kernel_rfl
theorem cl54 : callable Try.prog 54 = true := by kernel_rfl
theorem cl56 : callable Try.prog 56 = true := by kernel_rfl
theorem cl57 : callable Try.prog 57 = true := by kernel_rfl
theorem cl58 : callable Try.prog 58 = true := by kernel_rfl
theorem cl59 : callable Try.prog 59 = true := by kernel_rfl
/-- The function of a kind. -/
def ruleV (k : Int) : Value := if k = 2 then .func (.func 44) #[] #[] else if k = 3 then .func (.func 45) #[] #[] else if k = 4 then .func (.func 46) #[] #[] else if k = 5 then .func (.func 47) #[] #[] else if k = 6 then .func (.func 48) #[] #[] else if k = 7 then .func (.func 42) #[] #[] else if k = 8 then .func (.func 50) #[] #[] else if k = 9 then .func (.func 54) #[] #[] else if k = 10 then .func (.func 57) #[] #[] else if k = 12 then .func (.func 58) #[] #[] else if k = 13 then .func (.func 42) #[] #[] else if k = 14 then .func (.func 42) #[] #[] else if k = 15 then .func (.func 56) #[] #[] else if k = 16 then .func (.func 59) #[] #[] else .nilFunc
def hasR (k : Int) : Bool := decide (2 ≤ k) && decide (k ≤ 16) && !decide (k = 11)
theorem hasR_cases {k : Int} (h : hasR k = true) : k = 2 ∨ k = 3 ∨ k = 4 ∨ k = 5 ∨ k = 6 ∨ k = 7 ∨ k = 8 ∨ k = 9 ∨ k = 10 ∨ k = 12 ∨ k = 13 ∨ k = 14 ∨ k = 15 ∨ k = 16 := by
  unfold hasR at h; simp at h; omega
/-- What a message of a kind is refused with. -/
def ruleE (c : Co) (a b : Wy) (m : M) : Int :=
  if m.kind = 8 then (if hasB c.n.toNat b.fd m.i1 = false then 9 else if c.ft = false ∧ b.ck = true then 0 else if chB b.wa (blk m) = true then 6 else if c.qu ≤ (b.wa.length : Int) then 14 else 0)
  else if m.kind = 9 then (if openB a (blk m).p = false then 9 else if chB a.wa (blk m) = false then 8 else 0)
  else if m.kind = 15 then (if chB a.wa (blk m) = false then 8 else 0)
  else if m.kind = 12 then (if hasB c.n.toNat a.fd m.i1 = false then 9 else 0)
  else 0
/-- What it does to its sender's way. -/
def ruleO (c : Co) (a : Wy) (m : M) : Wy :=
  if m.kind = 2 then (if c.ft = true then { a with ck := true } else a.shut)
  else if m.kind = 3 then { a with ck := false } else if m.kind = 4 then { a with wt := true } else if m.kind = 5 then { a with wt := false }
  else if m.kind = 6 then a.have m.i1 else if m.kind = 7 ∨ m.kind = 13 ∨ m.kind = 14 then { a with fd := (fieldMS c.n m).1 }
  else if m.kind = 9 ∨ m.kind = 15 then a.drop (blk m) else if m.kind = 16 then (if inB a.al m.i1 = true then a else a.allow m.i1) else a
/-- What it does to the other way. -/
def ruleP (c : Co) (b : Wy) (m : M) : Wy :=
  if m.kind = 8 then (if c.ft = false ∧ b.ck = true then b else b.ask (blk m))
  else if m.kind = 10 then (if chB b.wa (blk m) = false then b else if c.ft = true then b.cancel (blk m) else b.drop (blk m)) else b
theorem fitsS_valid {m : M} {n p l : Int} (h : fitsS m n p l = true) : validP m = true ∧ fitsK m n p l = true := by
  unfold fitsS at h
  by_cases hv : validP m = true ∧ ¬ n < 1 ∧ ¬ p < 1 ∧ ¬ l < 1
  · rw [if_pos hv] at h; exact ⟨hv.1, h⟩
  · rw [if_neg hv] at h; cases h
theorem validP_all {m : M} (h : validP m = true) : 1 ≤ m.kind ∧ m.kind ≤ 20 ∧ (fields m.kind.toNat).all (rightP · m) = true := by
  unfold validP at h
  simp only [Bool.and_eq_true, decide_eq_true_eq] at h
  exact ⟨h.1.1.1, h.1.1.2, h.1.2⟩
theorem fit_idx {m : M} {n p l : Int} (h : fitsS m n p l = true) (hk : m.kind = 6 ∨ m.kind = 12 ∨ m.kind = 16) : 0 ≤ m.i1 ∧ m.i1 < n := by
  obtain ⟨hv, hf⟩ := fitsS_valid h
  obtain ⟨_, _, ha⟩ := validP_all hv
  have h1 : m.i1 < n := by unfold fitsK at hf; rw [if_pos hk] at hf; exact of_decide_eq_true hf
  have hF : fields m.kind.toNat = fsOne := by rcases hk with e | e | e <;> rw [e] <;> rfl
  rw [hF] at ha
  simp [fsOne, rightP, F4, okNum, M.num] at ha
  omega
theorem fit_blk {m : M} {n p l : Int} (hn : n ≤ 4096) (h : fitsS m n p l = true) (hk : m.kind = 8 ∨ m.kind = 10 ∨ m.kind = 15 ∨ m.kind = 9) : chOk (blk m) ∧ 0 ≤ m.i1 ∧ m.i1 < n := by
  obtain ⟨hv, hf⟩ := fitsS_valid h
  obtain ⟨_, _, ha⟩ := validP_all hv
  have h0 : ¬ (m.kind = 6 ∨ m.kind = 12 ∨ m.kind = 16) := by omega
  unfold fitsK at hf
  rw [if_neg h0] at hf
  by_cases h9 : m.kind = 9
  · rw [if_neg (by omega), if_pos h9] at hf
    simp only [Bool.and_eq_true, decide_eq_true_eq] at hf
    have hF : fields m.kind.toNat = fsPiece := by rw [h9]; rfl
    rw [hF] at ha
    simp [fsPiece, rightP, F4, FRest, okNum, okText, M.num, M.text] at ha
    refine ⟨?_, by omega, hf.1⟩
    unfold chOk inI blk
    rw [if_pos h9]
    dsimp only
    refine ⟨⟨by omega, by omega⟩, ⟨by omega, by omega⟩, ⟨by omega, by omega⟩⟩
  · rw [if_pos (by omega)] at hf
    simp only [Bool.and_eq_true, decide_eq_true_eq] at hf
    have hF : fields m.kind.toNat = fsBlock := by rcases hk with e | e | e | e <;> first | (rw [e]; rfl) | (exact absurd e h9)
    rw [hF] at ha
    simp [fsBlock, rightP, F4, FLen, okNum, M.num] at ha
    refine ⟨?_, by omega, hf.1⟩
    unfold chOk inI blk
    rw [if_neg h9]
    dsimp only
    refine ⟨⟨by omega, by omega⟩, ⟨by omega, by omega⟩, ⟨by omega, by omega⟩⟩
set_option maxHeartbeats 4000000 in
theorem ruleDo_o (sg : Nat) (c : Co) (o : Bool) (A B : Ad) (a b : Wy) (m : M) (hn : 1 ≤ c.n ∧ c.n ≤ 4096) (hVa : Vf c.n.toNat a.fd) (hVb : Vf c.n.toNat b.fd) (hal : a.al.length ≤ 1099511627776) (hwa : a.wa.length ≤ 1099511627776) (hwb : b.wa.length ≤ 1099511627776) (hfit : fitsS m c.n c.pi c.la = true) (hk : hasR m.kind = true) (w : World) (HS : S w [sgI sg c o A B a b, alI A a, waI A a, goI A a, alI B b, waI B b, goI B b]) : ∃ F, ruleV m.kind = .func (.func F) #[] #[] ∧ callable Try.prog F = true ∧ Calls Try.prog F #[.agg #[.pointer (some ⟨sg, 0, none⟩), .int .i64 (m.kind), .int .i64 (m.i1), .int .i64 (m.i2), .int .i64 (m.i3), .int .i64 (m.i4), .int .i64 (m.i5), .string (m.root), .string (m.data), .pointer (some ⟨sg, offO o, none⟩), .pointer (some ⟨sg, offP o, none⟩)]] w fun e w' => ((ruleE c a b m = 0 ∧ ∃ Aq Bq : Ad, e = .returned (.tuple #[]) ∧ S w' ([sgI sg c o Aq Bq (ruleO c a m) (ruleP c b m), alI Aq (ruleO c a m), waI Aq (ruleO c a m), goI Aq (ruleO c a m), alI Bq (ruleP c b m), waI Bq (ruleP c b m), goI Bq (ruleP c b m)] ++ [olS w sg c o A B a b])) ∨ (¬ ruleE c a b m = 0 ∧ e = .panicked [{ v := .iface 72 (.int .i64 (ruleE c a b m)), recovered := false }] ∧ S w' ([sgI sg c o A B a b, alI A a, waI A a, goI A a, alI B b, waI B b, goI B b] ++ [olS w sg c o A B a b]))) := by
  have hn0 : 0 ≤ c.n ∧ c.n ≤ 4096 := ⟨by omega, hn.2⟩
  rcases hasR_cases hk with h | h | h | h | h | h | h | h | h | h | h | h | h | h
  · refine ⟨44, by unfold ruleV; simp [h], cl44, ?_⟩
    rcases Bool.eq_false_or_eq_true (c.ft) with hf | hf
    · skip
      refine (chokeF_o sg c o A B a b m hf w HS).mono ?_
      rintro e w' ⟨rfl, H⟩
      have e0 : ruleE c a b m = 0 := by simp [ruleE, h]
      have e1 : ruleO c a m = { a with ck := true } := by simp [ruleO, h, hf]
      have e2 : ruleP c b m = b := by simp [ruleP, h]
      exact .inl ⟨e0, A, B, rfl, by rw [e1, e2]; exact H⟩
    · skip
      refine (chokeD_o sg c o A B a b m hf w HS).mono ?_
      rintro e w' ⟨A', rfl, H⟩
      have e0 : ruleE c a b m = 0 := by simp [ruleE, h]
      have e1 : ruleO c a m = a.shut := by simp [ruleO, h, hf]
      have e2 : ruleP c b m = b := by simp [ruleP, h]
      exact .inl ⟨e0, A', B, rfl, by rw [e1, e2]; exact H⟩
  · refine ⟨45, by unfold ruleV; simp [h], cl45, ?_⟩
    refine (unchoke_o sg c o A B a b m w HS).mono ?_
    rintro e w' ⟨rfl, H⟩
    have e0 : ruleE c a b m = 0 := by simp [ruleE, h]
    have e1 : ruleO c a m = { a with ck := false } := by simp [ruleO, h]
    have e2 : ruleP c b m = b := by simp [ruleP, h]
    exact .inl ⟨e0, A, B, rfl, by rw [e1, e2]; exact H⟩
  · refine ⟨46, by unfold ruleV; simp [h], cl46, ?_⟩
    refine (wants1_o sg c o A B a b m w HS).mono ?_
    rintro e w' ⟨rfl, H⟩
    have e0 : ruleE c a b m = 0 := by simp [ruleE, h]
    have e1 : ruleO c a m = { a with wt := true } := by simp [ruleO, h]
    have e2 : ruleP c b m = b := by simp [ruleP, h]
    exact .inl ⟨e0, A, B, rfl, by rw [e1, e2]; exact H⟩
  · refine ⟨47, by unfold ruleV; simp [h], cl47, ?_⟩
    refine (wants0_o sg c o A B a b m w HS).mono ?_
    rintro e w' ⟨rfl, H⟩
    have e0 : ruleE c a b m = 0 := by simp [ruleE, h]
    have e1 : ruleO c a m = { a with wt := false } := by simp [ruleO, h]
    have e2 : ruleP c b m = b := by simp [ruleP, h]
    exact .inl ⟨e0, A, B, rfl, by rw [e1, e2]; exact H⟩
  · refine ⟨48, by unfold ruleV; simp [h], cl48, ?_⟩
    have hi := fit_idx hfit (.inl h)
    refine (have_o sg c o A B a b m hn0 hVa hi w HS).mono ?_
    rintro e w' ⟨rfl, H⟩
    have e0 : ruleE c a b m = 0 := by simp [ruleE, h]
    have e1 : ruleO c a m = (a.have m.i1) := by simp [ruleO, h]
    have e2 : ruleP c b m = b := by simp [ruleP, h]
    exact .inl ⟨e0, A, B, rfl, by rw [e1, e2]; exact H⟩
  · refine ⟨42, by unfold ruleV; simp [h], cl42, ?_⟩
    refine (fieldR_o sg c o A B a b m w HS).mono ?_
    rintro e w' ⟨rfl, H⟩
    have e0 : ruleE c a b m = 0 := by simp [ruleE, h]
    have e1 : ruleO c a m = { a with fd := (fieldMS c.n m).1 } := by simp [ruleO, h]
    have e2 : ruleP c b m = b := by simp [ruleP, h]
    exact .inl ⟨e0, A, B, rfl, by rw [e1, e2]; exact H⟩
  · refine ⟨50, by unfold ruleV; simp [h], cl50, ?_⟩
    obtain ⟨hok, hi1⟩ := fit_blk hn.2 hfit (.inl h)
    rcases Bool.eq_false_or_eq_true (hasB c.n.toNat b.fd m.i1) with hq | hq
    · skip
      rcases Bool.eq_false_or_eq_true (c.ft) with hf | hf
      · skip
        rcases Bool.eq_false_or_eq_true (chB b.wa (blk m)) with hc | hc
        · skip
          refine (requestDF_o sg c o A B a b m hn0 hVb hwb hq hf hc w HS).mono ?_
          rintro e w' ⟨rfl, H⟩
          have e0 : ruleE c a b m = 6 := by simp [ruleE, h, hq, hf, hc]
          exact .inr ⟨by rw [e0]; decide, by rw [e0], H⟩
        · by_cases hl : c.qu ≤ (b.wa.length : Int)
          · skip
            refine (requestFF_o sg c o A B a b m hn0 hVb hwb hq hf hc hl w HS).mono ?_
            rintro e w' ⟨rfl, H⟩
            have e0 : ruleE c a b m = 14 := by simp [ruleE, h, hq, hf, hc, hl]
            exact .inr ⟨by rw [e0]; decide, by rw [e0], H⟩
          · skip
            refine (requestAF_o sg c o A B a b m hn0 hVb hwb hq hf hc (by omega) w HS).mono ?_
            rintro e w' ⟨A', rfl, H⟩
            have e0 : ruleE c a b m = 0 := by simp [ruleE, h, hq, hf, hc]; omega
            have e1 : ruleO c a m = a := by simp [ruleO, h]
            have e2 : ruleP c b m = (b.ask (blk m)) := by simp [ruleP, h, hq, hf]
            exact .inl ⟨e0, A, A', rfl, by rw [e1, e2]; exact H⟩
      · skip
        rcases Bool.eq_false_or_eq_true (b.ck) with hkk | hkk
        · skip
          refine (requestQ_o sg c o A B a b m hn0 hVb hwb hq hf hkk w HS).mono ?_
          rintro e w' ⟨rfl, H⟩
          have e0 : ruleE c a b m = 0 := by simp [ruleE, h, hq, hf, hkk]
          have e1 : ruleO c a m = a := by simp [ruleO, h]
          have e2 : ruleP c b m = b := by simp [ruleP, h, hf, hkk]
          exact .inl ⟨e0, A, B, rfl, by rw [e1, e2]; exact H⟩
        · skip
          rcases Bool.eq_false_or_eq_true (chB b.wa (blk m)) with hc | hc
          · skip
            refine (requestDN_o sg c o A B a b m hn0 hVb hwb hq hf hkk hc w HS).mono ?_
            rintro e w' ⟨rfl, H⟩
            have e0 : ruleE c a b m = 6 := by simp [ruleE, h, hq, hf, hkk, hc]
            exact .inr ⟨by rw [e0]; decide, by rw [e0], H⟩
          · by_cases hl : c.qu ≤ (b.wa.length : Int)
            · skip
              refine (requestFN_o sg c o A B a b m hn0 hVb hwb hq hf hkk hc hl w HS).mono ?_
              rintro e w' ⟨rfl, H⟩
              have e0 : ruleE c a b m = 14 := by simp [ruleE, h, hq, hf, hkk, hc, hl]
              exact .inr ⟨by rw [e0]; decide, by rw [e0], H⟩
            · skip
              refine (requestAN_o sg c o A B a b m hn0 hVb hwb hq hf hkk hc (by omega) w HS).mono ?_
              rintro e w' ⟨A', rfl, H⟩
              have e0 : ruleE c a b m = 0 := by simp [ruleE, h, hq, hf, hkk, hc]; omega
              have e1 : ruleO c a m = a := by simp [ruleO, h]
              have e2 : ruleP c b m = (b.ask (blk m)) := by simp [ruleP, h, hq, hf, hkk]
              exact .inl ⟨e0, A, A', rfl, by rw [e1, e2]; exact H⟩
    · skip
      refine (requestS_o sg c o A B a b m hn0 hVb hwb hq w HS).mono ?_
      rintro e w' ⟨rfl, H⟩
      have e0 : ruleE c a b m = 9 := by simp [ruleE, h, hq]
      exact .inr ⟨by rw [e0]; decide, by rw [e0], H⟩
  · refine ⟨54, by unfold ruleV; simp [h], cl54, ?_⟩
    obtain ⟨hok, hi1⟩ := fit_blk hn.2 hfit (.inr (.inr (.inr h)))
    rcases Bool.eq_false_or_eq_true (openB a (blk m).p) with ho | ho
    · rcases Bool.eq_false_or_eq_true (chB a.wa (blk m)) with hq | hq
      · skip
        refine (piece_o sg c o A B a b m hok hwa hal ho hq w HS).mono ?_
        rintro e w' ⟨rfl, H⟩
        have e0 : ruleE c a b m = 0 := by simp [ruleE, h, ho, hq]
        have e1 : ruleO c a m = (a.drop (blk m)) := by simp [ruleO, h]
        have e2 : ruleP c b m = b := by simp [ruleP, h]
        exact .inl ⟨e0, A, B, rfl, by rw [e1, e2]; exact H⟩
      · skip
        refine (pieceN_o sg c o A B a b m hok hwa hal ho hq w HS).mono ?_
        rintro e w' ⟨rfl, H⟩
        have e0 : ruleE c a b m = 8 := by simp [ruleE, h, ho, hq]
        exact .inr ⟨by rw [e0]; decide, by rw [e0], H⟩
    · skip
      refine (pieceO_o sg c o A B a b m hok hwa hal ho w HS).mono ?_
      rintro e w' ⟨rfl, H⟩
      have e0 : ruleE c a b m = 9 := by simp [ruleE, h, ho]
      exact .inr ⟨by rw [e0]; decide, by rw [e0], H⟩
  · refine ⟨57, by unfold ruleV; simp [h], cl57, ?_⟩
    obtain ⟨hok, hi1⟩ := fit_blk hn.2 hfit (.inr (.inl h))
    rcases Bool.eq_false_or_eq_true (chB b.wa (blk m)) with hq | hq
    · skip
      rcases Bool.eq_false_or_eq_true (c.ft) with hf | hf
      · skip
        refine (cancelF_o sg c o A B a b m hok hwb hq hf w HS).mono ?_
        rintro e w' ⟨rfl, H⟩
        have e0 : ruleE c a b m = 0 := by simp [ruleE, h]
        have e1 : ruleO c a m = a := by simp [ruleO, h]
        have e2 : ruleP c b m = (b.cancel (blk m)) := by simp [ruleP, h, hq, hf]
        exact .inl ⟨e0, A, B, rfl, by rw [e1, e2]; exact H⟩
      · skip
        refine (cancelD_o sg c o A B a b m hok hwb hq hf w HS).mono ?_
        rintro e w' ⟨rfl, H⟩
        have e0 : ruleE c a b m = 0 := by simp [ruleE, h]
        have e1 : ruleO c a m = a := by simp [ruleO, h]
        have e2 : ruleP c b m = (b.drop (blk m)) := by simp [ruleP, h, hq, hf]
        exact .inl ⟨e0, A, B, rfl, by rw [e1, e2]; exact H⟩
    · skip
      refine (cancelN_o sg c o A B a b m hok hwb hq w HS).mono ?_
      rintro e w' ⟨rfl, H⟩
      have e0 : ruleE c a b m = 0 := by simp [ruleE, h]
      have e1 : ruleO c a m = a := by simp [ruleO, h]
      have e2 : ruleP c b m = b := by simp [ruleP, h, hq]
      exact .inl ⟨e0, A, B, rfl, by rw [e1, e2]; exact H⟩
  · refine ⟨58, by unfold ruleV; simp [h], cl58, ?_⟩
    rcases Bool.eq_false_or_eq_true (hasB c.n.toNat a.fd m.i1) with hq | hq
    · skip
      refine (suggest_o sg c o A B a b m hn0 hVa hq w HS).mono ?_
      rintro e w' ⟨rfl, H⟩
      have e0 : ruleE c a b m = 0 := by simp [ruleE, h, hq]
      have e1 : ruleO c a m = a := by simp [ruleO, h]
      have e2 : ruleP c b m = b := by simp [ruleP, h]
      exact .inl ⟨e0, A, B, rfl, by rw [e1, e2]; exact H⟩
    · skip
      refine (suggestN_o sg c o A B a b m hn0 hVa hq w HS).mono ?_
      rintro e w' ⟨rfl, H⟩
      have e0 : ruleE c a b m = 9 := by simp [ruleE, h, hq]
      exact .inr ⟨by rw [e0]; decide, by rw [e0], H⟩
  · refine ⟨42, by unfold ruleV; simp [h], cl42, ?_⟩
    refine (fieldR_o sg c o A B a b m w HS).mono ?_
    rintro e w' ⟨rfl, H⟩
    have e0 : ruleE c a b m = 0 := by simp [ruleE, h]
    have e1 : ruleO c a m = { a with fd := (fieldMS c.n m).1 } := by simp [ruleO, h]
    have e2 : ruleP c b m = b := by simp [ruleP, h]
    exact .inl ⟨e0, A, B, rfl, by rw [e1, e2]; exact H⟩
  · refine ⟨42, by unfold ruleV; simp [h], cl42, ?_⟩
    refine (fieldR_o sg c o A B a b m w HS).mono ?_
    rintro e w' ⟨rfl, H⟩
    have e0 : ruleE c a b m = 0 := by simp [ruleE, h]
    have e1 : ruleO c a m = { a with fd := (fieldMS c.n m).1 } := by simp [ruleO, h]
    have e2 : ruleP c b m = b := by simp [ruleP, h]
    exact .inl ⟨e0, A, B, rfl, by rw [e1, e2]; exact H⟩
  · refine ⟨56, by unfold ruleV; simp [h], cl56, ?_⟩
    obtain ⟨hok, hi1⟩ := fit_blk hn.2 hfit (.inr (.inr (.inl h)))
    rcases Bool.eq_false_or_eq_true (chB a.wa (blk m)) with hq | hq
    · skip
      refine (reject_o sg c o A B a b m hok hwa hal hq w HS).mono ?_
      rintro e w' ⟨rfl, H⟩
      have e0 : ruleE c a b m = 0 := by simp [ruleE, h, hq]
      have e1 : ruleO c a m = (a.drop (blk m)) := by simp [ruleO, h]
      have e2 : ruleP c b m = b := by simp [ruleP, h]
      exact .inl ⟨e0, A, B, rfl, by rw [e1, e2]; exact H⟩
    · skip
      refine (rejectN_o sg c o A B a b m hok hwa hal hq w HS).mono ?_
      rintro e w' ⟨rfl, H⟩
      have e0 : ruleE c a b m = 8 := by simp [ruleE, h, hq]
      exact .inr ⟨by rw [e0]; decide, by rw [e0], H⟩
  · refine ⟨59, by unfold ruleV; simp [h], cl59, ?_⟩
    rcases Bool.eq_false_or_eq_true (inB a.al m.i1) with hq | hq
    · skip
      refine (allowN_o sg c o A B a b m hal hq w HS).mono ?_
      rintro e w' ⟨rfl, H⟩
      have e0 : ruleE c a b m = 0 := by simp [ruleE, h]
      have e1 : ruleO c a m = a := by simp [ruleO, h, hq]
      have e2 : ruleP c b m = b := by simp [ruleP, h]
      exact .inl ⟨e0, A, B, rfl, by rw [e1, e2]; exact H⟩
    · skip
      refine (allowY_o sg c o A B a b m hal hq w HS).mono ?_
      rintro e w' ⟨A', rfl, H⟩
      have e0 : ruleE c a b m = 0 := by simp [ruleE, h]
      have e1 : ruleO c a m = (a.allow m.i1) := by simp [ruleO, h, hq]
      have e2 : ruleP c b m = b := by simp [ruleP, h]
      exact .inl ⟨e0, A', B, rfl, by rw [e1, e2]; exact H⟩
end Go.Proofs.Ytdkfkdekiljcoaa
