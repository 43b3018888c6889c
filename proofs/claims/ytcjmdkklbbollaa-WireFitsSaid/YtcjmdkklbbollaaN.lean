import Derived.Test.YtcjmdkklbbollaaL
import Derived.WalkSpells
set_option linter.unusedSimpArgs false
set_option linter.unusedVariables false
namespace Go.Proofs.Ytcjmdkklbbollaa
open Go.RowKit

theorem mod27 (c : Nat) (hc : c < 256) (h : goodH 27 c = true) : (((c : Nat) : Int) % 8 == 4) = (c == 4 || c == 20) ∧ decide ((16 : Int) ≤ (c : Int)) = (c == 16 || c == 20) := by
  have h' : ∀ c : Fin 256, goodH 27 (c : Nat) = true → (((c : Nat) : Int) % 8 == 4) = ((c : Nat) == 4 || (c : Nat) == 20) ∧ decide ((16 : Int) ≤ ((c : Nat) : Int)) = ((c : Nat) == 16 || (c : Nat) == 20) := by decide +kernel
  exact h' ⟨c, hc⟩ h
set_option maxRecDepth 20000 in
set_option maxHeartbeats 4000000 in
theorem readHello_r (s : ByteArray) (w : World) : Calls Try.prog 14 #[.string s] w fun e w' => e = .returned (.tuple #[.agg (readR s).1.cells, .int .i64 (readR s).2.1, .int .i64 (readR s).2.2.1, .int .i64 (readR s).2.2.2]) ∧ Sub w w' := by
  by_cases hl : (65536 : Int) < s.size
  · have e : readR s = (Hs.zero, 0, 0, 3) := by rw [readR, if_pos (by omega)]
    rw [e]
    clear e
    go_enter Try.func14, Try.ntmps14
    go_wp2_with fail
    exact bodyPost_ret (v := .tuple #[.agg Hs.zero.cells, .int .i64 0, .int .i64 0, .int .i64 3]) (by simp [results, Try.results14, go_sem, Hs.cells, Hs.zero]) rfl ⟨rfl, Sub.al Sub.rfl' _⟩
  · by_cases h28 : (s.size : Int) ≤ 28
    all_goals
      go_enter Try.func14, Try.ntmps14
      go_wp2_with fail
      go_loopw [15] (fun i wr => ∃ k : Nat, k ≤ 28 ∧ k ≤ s.size ∧ i = .int .i64 k ∧ GoodTo s k ∧ Blk wr w.heap.size 23 Hs.zero.cells ∧ Sub w wr) (fun i _ => 28 - (intOf i).toNat)
      case atStart =>
        exact ⟨0, by omega, by omega, rfl, fun j hj => by omega, Blk.new w 23 Hs.zero.cells, Sub.al Sub.rfl' _⟩
      case round =>
        obtain ⟨k, hk, hks, rfl, hgood, hB1, hsub⟩ := hrel
        have Hgood := Lib.hid hgood; clear hgood
        have z0 : wr.cell? ⟨w.heap.size, 0, none⟩ = some (.bool false) := by rw [hB1.cell]; rfl
        have z1 : wr.cell? ⟨w.heap.size, 1, none⟩ = some (.bool false) := by rw [hB1.cell]; rfl
        have z2 : wr.cell? ⟨w.heap.size, 2, none⟩ = some (.bool false) := by rw [hB1.cell]; rfl
        have z3 : wr.cell? ⟨w.heap.size, 3, none⟩ = some (.string ⟨#[]⟩) := by rw [hB1.cell]; rfl
        have z4 : wr.cell? ⟨w.heap.size, 4, none⟩ = some (.string ⟨#[]⟩) := by rw [hB1.cell]; rfl
        have f0 := hB1.frozen 0
        have f1 := hB1.frozen 1
        have f2 := hB1.frozen 2
        have f3 := hB1.frozen 3
        have f4 := hB1.frozen 4
        have hlt1 := hB1.lt
        have HB1 := Lib.hid hB1; clear hB1
        have Hsub := Lib.hid hsub; clear hsub
        by_cases hlt : k < 28 ∧ k < s.size
        · obtain ⟨hk1, hk2⟩ := hlt
          have hbt := bt_get s k hk2
          have hb256 := bt_lt s k
          by_cases h20 : (k : Int) < 20
          · have hgr := greet_get k (by omega)
            by_cases hg : goodH k (bt s k) = true
            · have hc : (((s[k]'hk2).toNat : Int) == ((⟨#[19, 99, 111, 118, 101, 121, 32, 112, 101, 101, 114, 32, 112, 114, 111, 116, 111, 99, 111, 108]⟩ : ByteArray)[k]'(show k < 20 by omega)).toNat) = true := by
                rw [hbt, hgr]
                simp only [goodH, if_pos (show k < 20 by omega), beq_iff_eq] at hg
                simp [hg]
              have Hg := Lib.hid hg; clear hg hbt hgr
              go_wp2_with fail
              go_quiet ((go_at_call 45; exact Calls.quiet_of_same (intro_r _)))
              go_wp2_with fail
              go_roundw
              case rel => exact ⟨k + 1, by omega, by omega, by go_num, Hgood.out.snoc Hg.out, HB1.out.drewN _, Hsub.out.drawn _⟩
              case measure => simp [intOf]; omega
            · have hg' : goodH k (bt s k) = false := by simpa using hg
              have hc : (((s[k]'hk2).toNat : Int) == ((⟨#[19, 99, 111, 118, 101, 121, 32, 112, 101, 101, 114, 32, 112, 114, 111, 116, 111, 99, 111, 108]⟩ : ByteArray)[k]'(show k < 20 by omega)).toNat) = false := by
                rw [hbt, hgr]
                simp only [goodH, if_pos (show k < 20 by omega), beq_iff_eq] at hg
                simp; omega
              have hfin : readR s = (Hs.zero, 0, (k : Int), 12) := by rw [readR, if_neg (by omega), badAt_some Hgood.out hk1 hk2 hg']
              have Hfin := Lib.hid hfin; clear hfin hg hg' hbt hgr
              go_wp2_with fail
              go_quiet ((go_at_call 45; exact Calls.quiet_of_same (intro_r _)))
              go_wp2_with fail
              rw [Hfin.out]
              refine bodyPost_ret (v := .tuple #[.agg Hs.zero.cells, .int .i64 0, .int .i64 k, .int .i64 12]) (by simp [results, Try.results14, go_sem, Hs.cells, Hs.zero, *]) rfl ⟨rfl, ?_⟩
              iterate 5 refine Below.setCell ?_ (by exact Nat.le_refl _) _
              exact Hsub.out.drawn _
          · have hk20 : 20 ≤ k := by omega
            have h20d : decide ((k : Int) < 20) = false := by simp; omega
            have h20i : (20 : Int) ≤ k := by omega
            have hfin : goodH k (bt s k) = false → readR s = (Hs.zero, 0, (k : Int), 12) := fun hg' => by rw [readR, if_neg (by omega), badAt_some Hgood.out hk1 hk2 hg']
            have hgv : goodH k (bt s k) = if k = 25 then bt s k == 0 || bt s k == 16 else if k = 27 then bt s k == 0 || bt s k == 4 || bt s k == 16 || bt s k == 20 else bt s k == 0 := by rw [goodH, if_neg (by omega)]
            have t0 : (((s[k]'hk2).toNat : Int) == 0) = (bt s k == 0) := by rw [hbt, Bool.eq_iff_iff]; simp
            have t4 : (((s[k]'hk2).toNat : Int) == 4) = (bt s k == 4) := by rw [hbt, Bool.eq_iff_iff]; simp; omega
            have t16 : (((s[k]'hk2).toNat : Int) == 16) = (bt s k == 16) := by rw [hbt, Bool.eq_iff_iff]; simp; omega
            have t20 : (((s[k]'hk2).toNat : Int) == 20) = (bt s k == 20) := by rw [hbt, Bool.eq_iff_iff]; simp; omega
            generalize (bt s k == 0) = b0 at *
            generalize (bt s k == 4) = b4 at *
            generalize (bt s k == 16) = b16 at *
            generalize (bt s k == 20) = b20 at *
            have Hfin := Lib.hid hfin; clear hfin hbt hb256 h20
            have Hgv := Lib.hid hgv; clear hgv
            by_cases hk25 : k = 25
            · have kb25 : ((k : Int) == 25) = true := by simp; omega
              have hgv2 : goodH k (bt s k) = (b0 || b16) := by rw [Hgv.out, if_pos hk25]
              have Hg2 := Lib.hid (And.intro hgv2 hk25); clear hgv2 hk25
              cases b0
              · cases b16
                · have hr := Hfin.out (Eq.trans (Hg2.out.1) rfl)
                  have Hr := Lib.hid hr; clear hr
                  go_wp2_with fail
                  rw [Hr.out]
                  refine bodyPost_ret (v := .tuple #[.agg Hs.zero.cells, .int .i64 0, .int .i64 k, .int .i64 12]) (by simp [results, Try.results14, go_sem, Hs.cells, Hs.zero, *]) rfl ⟨rfl, ?_⟩
                  iterate 5 refine Below.setCell ?_ (by exact Nat.le_refl _) _
                  exact Hsub.out
                · go_wp2_with fail
                  go_roundw
                  case rel => exact ⟨k + 1, by omega, by omega, by go_num, Hgood.out.snoc (Eq.trans (Hg2.out.1) rfl), HB1.out, Hsub.out⟩
                  case measure => simp [intOf]; omega
              · go_wp2_with fail
                go_roundw
                case rel => exact ⟨k + 1, by omega, by omega, by go_num, Hgood.out.snoc (Eq.trans (Hg2.out.1) rfl), HB1.out, Hsub.out⟩
                case measure => simp [intOf]; omega
            · have kb25 : ((k : Int) == 25) = false := by simp; omega
              by_cases hk27 : k = 27
              · have kb27 : ((k : Int) == 27) = true := by simp; omega
                have hgv2 : goodH k (bt s k) = (b0 || b4 || b16 || b20) := by rw [Hgv.out, if_neg hk25, if_pos hk27]
                have Hg2 := Lib.hid (And.intro hgv2 hk27); clear hgv2 hk25 hk27
                cases b0
                · cases b4
                  · cases b16
                    · cases b20
                      · have hr := Hfin.out (Eq.trans (Hg2.out.1) rfl)
                        have Hr := Lib.hid hr; clear hr
                        go_wp2_with fail
                        rw [Hr.out]
                        refine bodyPost_ret (v := .tuple #[.agg Hs.zero.cells, .int .i64 0, .int .i64 k, .int .i64 12]) (by simp [results, Try.results14, go_sem, Hs.cells, Hs.zero, *]) rfl ⟨rfl, ?_⟩
                        iterate 5 refine Below.setCell ?_ (by exact Nat.le_refl _) _
                        exact Hsub.out
                      · go_wp2_with fail
                        go_roundw
                        case rel => exact ⟨k + 1, by omega, by omega, by go_num, Hgood.out.snoc (Eq.trans (Hg2.out.1) rfl), HB1.out, Hsub.out⟩
                        case measure => simp [intOf]; omega
                    · go_wp2_with fail
                      go_roundw
                      case rel => exact ⟨k + 1, by omega, by omega, by go_num, Hgood.out.snoc (Eq.trans (Hg2.out.1) rfl), HB1.out, Hsub.out⟩
                      case measure => simp [intOf]; omega
                  · go_wp2_with fail
                    go_roundw
                    case rel => exact ⟨k + 1, by omega, by omega, by go_num, Hgood.out.snoc (Eq.trans (Hg2.out.1) rfl), HB1.out, Hsub.out⟩
                    case measure => simp [intOf]; omega
                · go_wp2_with fail
                  go_roundw
                  case rel => exact ⟨k + 1, by omega, by omega, by go_num, Hgood.out.snoc (Eq.trans (Hg2.out.1) rfl), HB1.out, Hsub.out⟩
                  case measure => simp [intOf]; omega
              · have kb27 : ((k : Int) == 27) = false := by simp; omega
                have hgv2 : goodH k (bt s k) = b0 := by rw [Hgv.out, if_neg hk25, if_neg hk27]
                have Hg2 := Lib.hid hgv2; clear hgv2 hk25 hk27
                cases b0
                · have hr := Hfin.out (Eq.trans Hg2.out rfl)
                  have Hr := Lib.hid hr; clear hr
                  go_wp2_with fail
                  rw [Hr.out]
                  refine bodyPost_ret (v := .tuple #[.agg Hs.zero.cells, .int .i64 0, .int .i64 k, .int .i64 12]) (by simp [results, Try.results14, go_sem, Hs.cells, Hs.zero, *]) rfl ⟨rfl, ?_⟩
                  iterate 5 refine Below.setCell ?_ (by exact Nat.le_refl _) _
                  exact Hsub.out
                · go_wp2_with fail
                  go_roundw
                  case rel => exact ⟨k + 1, by omega, by omega, by go_num, Hgood.out.snoc (Eq.trans Hg2.out rfl), HB1.out, Hsub.out⟩
                  case measure => simp [intOf]; omega
        · by_cases h68 : (s.size : Int) < 68
          · have hfin : readR s = (Hs.zero, 0, (s.size : Int), 8) := by rw [readR, if_neg (by omega), badAt_none Hgood.out hlt]; simp only; rw [if_pos (by omega)]
            have Hfin := Lib.hid hfin; clear hfin
            rcases (by omega : (s.size ≤ 28 ∧ k = s.size) ∨ (28 < s.size ∧ k = 28)) with ⟨a1, a2⟩ | ⟨a1, a2⟩
            all_goals first | (exfalso; omega) | skip
            all_goals
              subst a2
              clear hlt
              go_wp2_with fail
              rw [Hfin.out]
              refine bodyPost_ret (v := .tuple #[.agg Hs.zero.cells, .int .i64 0, .int .i64 s.size, .int .i64 8]) (by simp [results, Try.results14, go_sem, Hs.cells, Hs.zero, *]) rfl ⟨rfl, ?_⟩
              iterate 5 refine Below.setCell ?_ (by exact Nat.le_refl _) _
              exact Hsub.out
          · have hs68 : 68 ≤ s.size := by omega
            try (exfalso; omega)
            all_goals
              have hfin : readR s = (gotH s, 68, -1, 0) := by rw [readR, if_neg (by omega), badAt_none Hgood.out hlt]; simp only; rw [if_neg (by omega)]
              have hg27 := Hgood.out 27 (by omega)
              have hg25 := bt_get s 25 (by omega)
              have hb27 := bt_get s 27 (by omega)
              obtain ⟨e4, e16⟩ := mod27 (bt s 27) (bt_lt s 27) hg27
              have c1 : (((s[27]'(by omega)).toNat : Int) % 8 == 4) = (bt s 27 == 4 || bt s 27 == 20) := by rw [hb27]; exact e4
              have c2 : decide ((16 : Int) ≤ ((s[27]'(by omega)).toNat : Int)) = (bt s 27 == 16 || bt s 27 == 20) := by rw [hb27]; exact e16
              have c0 : (((s[25]'(by omega)).toNat : Int) == 16) = (bt s 25 == 16) := by rw [hg25, Bool.eq_iff_iff]; simp; omega
              have Hfin := Lib.hid hfin; clear hfin hg27 hg25 hb27 e4 e16
              obtain rfl : k = 28 := by omega
              clear hlt
              generalize hx0 : (bt s 25 == 16) = x0 at c0
              generalize hx1 : (bt s 27 == 4 || bt s 27 == 20) = x1 at c1
              generalize hx2 : (bt s 27 == 16 || bt s 27 == 20) = x2 at c2
              have HX := Lib.hid (And.intro hx0 (And.intro hx1 hx2)); clear hx0 hx1 hx2
              go_wp2_with fail
              have h48 : 48 ≤ s.size := by omega
              have i68 : (68 : Int) ≤ s.size := by omega
              have i48 : (48 : Int) ≤ s.size := by omega
              have i25 : (25 : Int) < s.size := by omega
              have i27 : (27 : Int) < s.size := by omega
              go_region
              all_goals
                go_wp2_with fail
                rw [Hfin.out]
                refine bodyPost_ret (v := .tuple #[.agg (gotH s).cells, .int .i64 68, .int .i64 (-1), .int .i64 0]) ?_ rfl ⟨rfl, ?_⟩
                · simp [results, Try.results14, go_sem, Hs.cells, gotH, HX.out.1, HX.out.2.1, HX.out.2.2, *]
                · refine Sub.drew' ?_
                  iterate 5 refine Below.setCell ?_ (by exact Nat.le_refl _) _
                  exact Hsub.out
end Go.Proofs.Ytcjmdkklbbollaa
