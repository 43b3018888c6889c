import Derived.Test.YtibdlnjnomikjaaTz
set_option linter.unusedSimpArgs false
set_option linter.unusedVariables false
namespace Go.Proofs.Ytibdlnjnomikjaa
open Go.RowKit

theorem cl10 : callable Try.prog 10 = true := by kernel_rfl
theorem cl11 : callable Try.prog 11 = true := by kernel_rfl
theorem cl12 : callable Try.prog 12 = true := by kernel_rfl
theorem cl14 : callable Try.prog 14 = true := by kernel_rfl
theorem cl15 : callable Try.prog 15 = true := by kernel_rfl
theorem cl16 : callable Try.prog 16 = true := by kernel_rfl
theorem cl17 : callable Try.prog 17 = true := by kernel_rfl
theorem cl18 : callable Try.prog 18 = true := by kernel_rfl
theorem cl7 : callable Try.prog 7 = true := by kernel_rfl
theorem cl8 : callable Try.prog 8 = true := by kernel_rfl
theorem cl9 : callable Try.prog 9 = true := by kernel_rfl
theorem fo34_0 : foO Try.prog 34 0 = some 0 := by kernel_rfl
theorem fo34_1 : foO Try.prog 34 1 = some 1 := by kernel_rfl
theorem ze4 : zeO Try.prog 4 = some (.bool false) := by kernel_rfl
theorem look_B (x : Option Bool) : (x.map Value.bool).getD (.bool false) = .bool (x.getD false) := by cases x <;> rfl
set_option maxRecDepth 20000 in
set_option maxHeartbeats 4000000 in
set_option maxRecDepth 20000 in
set_option maxHeartbeats 4000000 in
theorem events_law (seed : ByteArray) (ls : List (Ro ByteArray)) (p : Option Addr) (n c : Nat) (hn : n = ls.length) (hn2 : n ≤ 9223372036854775807) (hln : ∀ r ∈ ls, r.l.length ≤ 9223372036854775807) (lv dx : Int) (es : List Int) (pe : Option Addr) (ne ce : Nat) (hne : ne = es.length) (hne2 : ne ≤ 9223372036854775807) (w : World) (hr : Reads w p n c 1 (rosV ls)) (hrs : ∀ r ∈ ls, Reads w r.p r.l.length r.c 1 (stV r.l)) (he : Reads w pe ne ce 1 (intsV es)) : Calls Try.prog 4 #[.string seed, .slice p n c, .int .i64 lv, .int .i64 dx, .slice pe ne ce] w fun e w' => e = .returned (.bool true) ∧ S w' [Old w no] := by
  have H0 := S.old w
  refine enter 256 Try.func4 rfl rfl rfl ?_
  refine g_weak [(0, .string seed), (1, .slice p n c), (2, .int .i64 lv), (3, .int .i64 dx), (4, .slice pe ne ce)] ⟨rfl, rfl, rfl, rfl, rfl, trivial⟩ ?_
  refine g_seq ?_
  refine g_region ?_
  refine l_of (s_val (v := .bool false) (wt0 rfl) rfl rfl (x_assign rfl rfl) ?_)
  refine g_nil ?_
  refine g_then ?_
  refine g_seq ?_
  refine g_seq ?_
  refine g_region ?_
  refine l_of (s_val (v := .slice p n c) (wt0 rfl) rfl rfl (x_move rfl rfl) ?_)
  refine l_of (s_call (wt0 rfl) (x_call' rfl rfl cl7) (light_s ls p n c hn [] none 0 0 rfl hn2 (Nat.zero_le _) hln _ (H0.oldReads (k := 0) rfl hr) (fun r hr => H0.oldReads (k := 0) rfl (hrs r hr)) ⟨rfl, Nat.le_refl _, fun h => absurd h (Nat.lt_irrefl _)⟩) ?_)
  rintro ee3 wq1 hor4
  rcases hor4 with ⟨hL9, rfl, H2⟩ | ⟨rfl, H2⟩
  · skip
    replace H2 : S wq1 [Old w no] := H0.absorb (new := []) H2
    have hL1 := hL9.1
    refine b_ret rfl rfl ?_
    refine l_of (s_val (v := .bool false) (wt0 rfl) rfl rfl (x_not (b := true) rfl rfl) ?_)
    refine l_of (s_val (v := .bool false) (wt0 rfl) rfl rfl (x_move rfl rfl) ?_)
    refine l_of (s_val (v := .int .i64 lv) (wt1 rfl rfl rfl rfl rfl) rfl rfl (x_move rfl rfl) ?_)
    refine l_of (s_val (v := .bool (decide ((lv : Int) < 1))) (wt1 rfl rfl rfl rfl rfl) rfl rfl (x_bin rfl rfl rfl b_lss) ?_)
    refine l_of (s_val (v := .bool (decide ((lv : Int) < 1))) (wt0 rfl) rfl rfl (x_pick_f rfl rfl rfl rfl) ?_)
    refine l_of (s_val (v := .bool (decide ((lv : Int) < 1))) (wt0 rfl) rfl rfl (x_move rfl rfl) ?_)
    by_cases hb5 : (lv : Int) < 1
    · skip
      refine l_of (s_not (wn1 rfl rfl rfl rfl (decide_eq_true hb5)) rfl rfl ?_)
      refine l_of (s_not (wn1 rfl rfl rfl rfl (decide_eq_true hb5)) rfl rfl ?_)
      refine l_of (s_val (v := .bool true) (wt0 rfl) rfl rfl (x_pick_t rfl rfl (decide_eq_true hb5) rfl) ?_)
      refine l_of (s_val (v := .bool true) (wt0 rfl) rfl rfl (x_move rfl rfl) ?_)
      refine l_of (s_not (wn1 rfl rfl rfl rfl rfl) rfl rfl ?_)
      refine l_of (s_not (wn1 rfl rfl rfl rfl rfl) rfl rfl ?_)
      refine l_of (s_not (wn1 rfl rfl rfl rfl rfl) rfl rfl ?_)
      refine l_of (s_val (v := .bool true) (wt0 rfl) rfl rfl (x_pick_t rfl rfl rfl rfl) ?_)
      refine l_of (s_val (v := .bool true) (wt0 rfl) rfl rfl (x_move rfl rfl) ?_)
      refine l_of (s_not (wn1 rfl rfl rfl rfl rfl) rfl rfl ?_)
      refine l_of (s_not (wn1 rfl rfl rfl rfl rfl) rfl rfl ?_)
      refine l_of (s_not (wn1 rfl rfl rfl rfl rfl) rfl rfl ?_)
      refine l_of (s_val (v := .bool true) (wt0 rfl) rfl rfl (x_pick_t rfl rfl rfl rfl) ?_)
      refine g_nil ?_
      refine g_then ?_
      refine g_weak [(0, .string seed), (1, .slice p n c), (2, .int .i64 lv), (3, .int .i64 dx), (4, .slice pe ne ce), (49, .bool true)] ⟨rfl, rfl, rfl, rfl, rfl, rfl, trivial⟩ ?_
      refine g_cond_t rfl rfl ?_
      refine g_seq ?_
      refine g_region ?_
      refine l_of (s_call (wt0 rfl) (x_call' rfl rfl cl8) (awake_s _) ?_)
      rintro _ wq6 ⟨rfl, H7⟩
      replace H7 : S wq6 [Old w no] := H2.absorb (new := []) H7
      refine b_ret rfl rfl ?_
      refine l_of (s_val (v := .bool true) (wt0 rfl) rfl rfl (x_assign rfl rfl) ?_)
      refine g_nil ?_
      refine g_then ?_
      refine g_ret ?_
      refine g_then_ret ?_
      refine fin_ret [.tmp 10] [.bool true] rfl ⟨rfl, trivial⟩ ?_
      exact ⟨rfl, H7.mask [true]⟩
    · skip
      refine l_of (s_val (v := .int .i64 lv) (wt1 rfl rfl rfl rfl (decide_eq_false hb5)) rfl rfl (x_move rfl rfl) ?_)
      refine l_of (s_val (v := .bool (decide ((4 : Int) < lv))) (wt1 rfl rfl rfl rfl (decide_eq_false hb5)) rfl rfl (x_bin rfl rfl rfl b_gtr) ?_)
      refine l_of (s_val (v := .bool (decide ((4 : Int) < lv))) (wt0 rfl) rfl rfl (x_pick_f rfl rfl (decide_eq_false hb5) rfl) ?_)
      refine l_of (s_val (v := .bool (decide ((4 : Int) < lv))) (wt0 rfl) rfl rfl (x_move rfl rfl) ?_)
      by_cases hb8 : (4 : Int) < lv
      · skip
        refine l_of (s_not (wn1 rfl rfl rfl rfl (decide_eq_true hb8)) rfl rfl ?_)
        refine l_of (s_not (wn1 rfl rfl rfl rfl (decide_eq_true hb8)) rfl rfl ?_)
        refine l_of (s_not (wn1 rfl rfl rfl rfl (decide_eq_true hb8)) rfl rfl ?_)
        refine l_of (s_val (v := .bool true) (wt0 rfl) rfl rfl (x_pick_t rfl rfl (decide_eq_true hb8) rfl) ?_)
        refine l_of (s_val (v := .bool true) (wt0 rfl) rfl rfl (x_move rfl rfl) ?_)
        refine l_of (s_not (wn1 rfl rfl rfl rfl rfl) rfl rfl ?_)
        refine l_of (s_not (wn1 rfl rfl rfl rfl rfl) rfl rfl ?_)
        refine l_of (s_not (wn1 rfl rfl rfl rfl rfl) rfl rfl ?_)
        refine l_of (s_val (v := .bool true) (wt0 rfl) rfl rfl (x_pick_t rfl rfl rfl rfl) ?_)
        refine g_nil ?_
        refine g_then ?_
        refine g_weak [(0, .string seed), (1, .slice p n c), (2, .int .i64 lv), (3, .int .i64 dx), (4, .slice pe ne ce), (49, .bool true)] ⟨rfl, rfl, rfl, rfl, rfl, rfl, trivial⟩ ?_
        refine g_cond_t rfl rfl ?_
        refine g_seq ?_
        refine g_region ?_
        refine l_of (s_call (wt0 rfl) (x_call' rfl rfl cl8) (awake_s _) ?_)
        rintro _ wq9 ⟨rfl, H10⟩
        replace H10 : S wq9 [Old w no] := H2.absorb (new := []) H10
        refine b_ret rfl rfl ?_
        refine l_of (s_val (v := .bool true) (wt0 rfl) rfl rfl (x_assign rfl rfl) ?_)
        refine g_nil ?_
        refine g_then ?_
        refine g_ret ?_
        refine g_then_ret ?_
        refine fin_ret [.tmp 10] [.bool true] rfl ⟨rfl, trivial⟩ ?_
        exact ⟨rfl, H10.mask [true]⟩
      · skip
        refine l_of (s_val (v := .slice pe ne ce) (wt1 rfl rfl rfl rfl (decide_eq_false hb8)) rfl rfl (x_move rfl rfl) ?_)
        refine l_of (s_val (v := .int .i64 ((ne : Int))) (wt1 rfl rfl rfl rfl (decide_eq_false hb8)) rfl rfl (x_lenl rfl rfl Try.underlying23) ?_)
        refine l_of (s_val (v := .bool (decide ((60 : Int) < (ne : Int)))) (wt1 rfl rfl rfl rfl (decide_eq_false hb8)) rfl rfl (x_bin rfl rfl rfl b_gtr) ?_)
        refine l_of (s_val (v := .bool (decide ((60 : Int) < (ne : Int)))) (wt0 rfl) rfl rfl (x_pick_f rfl rfl (decide_eq_false hb8) rfl) ?_)
        refine l_of (s_val (v := .bool (decide ((60 : Int) < (ne : Int)))) (wt0 rfl) rfl rfl (x_move rfl rfl) ?_)
        by_cases hb11 : (60 : Int) < (ne : Int)
        · skip
          refine l_of (s_not (wn1 rfl rfl rfl rfl (decide_eq_true hb11)) rfl rfl ?_)
          refine l_of (s_not (wn1 rfl rfl rfl rfl (decide_eq_true hb11)) rfl rfl ?_)
          refine l_of (s_not (wn1 rfl rfl rfl rfl (decide_eq_true hb11)) rfl rfl ?_)
          refine l_of (s_val (v := .bool true) (wt0 rfl) rfl rfl (x_pick_t rfl rfl (decide_eq_true hb11) rfl) ?_)
          refine g_nil ?_
          refine g_then ?_
          refine g_weak [(0, .string seed), (1, .slice p n c), (2, .int .i64 lv), (3, .int .i64 dx), (4, .slice pe ne ce), (49, .bool true)] ⟨rfl, rfl, rfl, rfl, rfl, rfl, trivial⟩ ?_
          refine g_cond_t rfl rfl ?_
          refine g_seq ?_
          refine g_region ?_
          refine l_of (s_call (wt0 rfl) (x_call' rfl rfl cl8) (awake_s _) ?_)
          rintro _ wq12 ⟨rfl, H13⟩
          replace H13 : S wq12 [Old w no] := H2.absorb (new := []) H13
          refine b_ret rfl rfl ?_
          refine l_of (s_val (v := .bool true) (wt0 rfl) rfl rfl (x_assign rfl rfl) ?_)
          refine g_nil ?_
          refine g_then ?_
          refine g_ret ?_
          refine g_then_ret ?_
          refine fin_ret [.tmp 10] [.bool true] rfl ⟨rfl, trivial⟩ ?_
          exact ⟨rfl, H13.mask [true]⟩
        · skip
          refine l_of (s_val (v := .string seed) (wt1 rfl rfl rfl rfl (decide_eq_false hb11)) rfl rfl (x_move rfl rfl) ?_)
          refine l_of (s_val (v := .int .i64 ((seed.size : Int))) (wt1 rfl rfl rfl rfl (decide_eq_false hb11)) rfl rfl (x_lens rfl rfl Try.underlying9) ?_)
          refine l_of (s_val (v := .bool (decide ((100 : Int) < (seed.size : Int)))) (wt1 rfl rfl rfl rfl (decide_eq_false hb11)) rfl rfl (x_bin rfl rfl rfl b_gtr) ?_)
          refine l_of (s_val (v := .bool (decide ((100 : Int) < (seed.size : Int)))) (wt0 rfl) rfl rfl (x_pick_f rfl rfl (decide_eq_false hb11) rfl) ?_)
          refine g_nil ?_
          refine g_then ?_
          refine g_weak [(0, .string seed), (1, .slice p n c), (2, .int .i64 lv), (3, .int .i64 dx), (4, .slice pe ne ce), (49, .bool (decide ((100 : Int) < (seed.size : Int))))] ⟨rfl, rfl, rfl, rfl, rfl, rfl, trivial⟩ ?_
          by_cases hb14 : (100 : Int) < (seed.size : Int)
          · skip
            refine g_cond_t rfl (decide_eq_true hb14) ?_
            refine g_seq ?_
            refine g_region ?_
            refine l_of (s_call (wt0 rfl) (x_call' rfl rfl cl8) (awake_s _) ?_)
            rintro _ wq15 ⟨rfl, H16⟩
            replace H16 : S wq15 [Old w no] := H2.absorb (new := []) H16
            refine b_ret rfl rfl ?_
            refine l_of (s_val (v := .bool true) (wt0 rfl) rfl rfl (x_assign rfl rfl) ?_)
            refine g_nil ?_
            refine g_then ?_
            refine g_ret ?_
            refine g_then_ret ?_
            refine fin_ret [.tmp 10] [.bool true] rfl ⟨rfl, trivial⟩ ?_
            exact ⟨rfl, H16.mask [true]⟩
          · skip
            refine g_cond_f rfl (decide_eq_false hb14) ?_
            refine g_skip ?_
            refine g_then ?_
            refine g_seq ?_
            refine g_region ?_
            refine l_of (s_val (v := .string seed) (wt0 rfl) rfl rfl (x_move rfl rfl) ?_)
            refine l_of (s_val (v := .slice p n c) (wt0 rfl) rfl rfl (x_move rfl rfl) ?_)
            refine l_of (s_call (wt0 rfl) (x_call' rfl rfl cl9) (new_s _ (by omega) ls p n c hn (by omega) (fun r hr => ⟨by have := hL9.2.1 r hr; omega, fun s hs => by have := (hL9.2.1 r hr).2 s hs; omega⟩) false _ (H2.oldReads (k := 0) rfl hr) (fun r hr => H2.oldReads (k := 0) rfl (hrs r hr))) ?_)
            rintro ee19 wq17 hor20
            rcases hor20 with ⟨hbad, rfl, H18⟩ | ⟨g, mg, nr, C, P, rows, tk, M, hsd, hgood, hnew, hnr, rfl, H18⟩
            · skip
              replace H18 : S wq17 [Old w no] := H2.absorb (new := []) H18
              refine b_ret rfl rfl ?_
              refine l_of (s_val (v := .tuple #[.pointer none, .int .i64 1]) (wt0 rfl) rfl rfl (x_move rfl rfl) ?_)
              refine l_of (s_val (v := .pointer none) (wt0 rfl) rfl rfl (x_extract rfl rfl rfl) ?_)
              refine l_of (s_val (v := .int .i64 1) (wt0 rfl) rfl rfl (x_extract rfl rfl rfl) ?_)
              refine l_of (s_val (v := .pointer none) (wt0 rfl) rfl rfl (x_assign rfl rfl) ?_)
              refine l_of (s_val (v := .int .i64 1) (wt0 rfl) rfl rfl (x_assign rfl rfl) ?_)
              refine g_nil ?_
              refine g_then ?_
              refine g_seq ?_
              refine g_seq ?_
              refine g_region ?_
              refine l_of (s_val (v := .int .i64 1) (wt0 rfl) rfl rfl (x_move rfl rfl) ?_)
              refine l_of (s_val (v := .bool (!decide ((1 : Int) = 0))) (wt0 rfl) rfl rfl (x_bin rfl rfl rfl b_neq) ?_)
              refine g_nil ?_
              refine g_then ?_
              refine g_cond_t rfl (by decide) ?_
              refine g_seq ?_
              refine g_region ?_
              refine l_of (s_call (wt0 rfl) (x_call' rfl rfl cl8) (awake_s _) ?_)
              rintro _ wq21 ⟨rfl, H22⟩
              replace H22 : S wq21 [Old w no] := H18.absorb (new := []) H22
              refine b_ret rfl rfl ?_
              refine l_of (s_val (v := .bool true) (wt0 rfl) rfl rfl (x_assign rfl rfl) ?_)
              refine g_nil ?_
              refine g_then ?_
              refine g_weak [(10, .bool true)] ⟨rfl, trivial⟩ ?_
              refine g_ret ?_
              refine g_then_ret ?_
              refine fin_ret [.tmp 10] [.bool true] rfl ⟨rfl, trivial⟩ ?_
              exact ⟨rfl, H22.mask [true]⟩
            · skip
              replace H18 : S wq17 [Ob g (.cells #[.pointer none, .int .i64 0, .slice P nr C, (.map (some mg)), .int .i64 0, .int .i64 0, .bool false, .bool false, .bool false, .bool false] 64 (0, 0)), Rw 68 1 P nr C (rosV rows), RowsI 59 1 ptL rows, Fam 71 Tk.cells (adr rows) tk, Mp Value.string (fun x : Nat => Value.pointer (some ⟨x, 0, none⟩)) okT mg M, Old w no] := H2.absorb (new := [Ob g (.cells #[.pointer none, .int .i64 0, .slice P nr C, (.map (some mg)), .int .i64 0, .int .i64 0, .bool false, .bool false, .bool false, .bool false] 64 (0, 0)), Rw 68 1 P nr C (rosV rows), RowsI 59 1 ptL rows, Fam 71 Tk.cells (adr rows) tk, Mp Value.string (fun x : Nat => Value.pointer (some ⟨x, 0, none⟩)) okT mg M]) H18
              have hg1 := hgood.1
              have hg2 := hgood.2.1
              unfold tlsOf at hg1 hg2
              rw [List.length_map] at hg1 hg2
              have hsane := sane_new hnew hg1 hg2
              refine b_ret rfl rfl ?_
              refine l_of (s_val (v := .tuple #[.pointer (some ⟨g, 0, none⟩), .int .i64 0]) (wt0 rfl) rfl rfl (x_move rfl rfl) ?_)
              refine l_of (s_val (v := .pointer (some ⟨g, 0, none⟩)) (wt0 rfl) rfl rfl (x_extract rfl rfl rfl) ?_)
              refine l_of (s_val (v := .int .i64 0) (wt0 rfl) rfl rfl (x_extract rfl rfl rfl) ?_)
              refine l_of (s_val (v := .pointer (some ⟨g, 0, none⟩)) (wt0 rfl) rfl rfl (x_assign rfl rfl) ?_)
              refine l_of (s_val (v := .int .i64 0) (wt0 rfl) rfl rfl (x_assign rfl rfl) ?_)
              refine g_nil ?_
              refine g_then ?_
              refine g_seq ?_
              refine g_seq ?_
              refine g_region ?_
              refine l_of (s_val (v := .int .i64 0) (wt0 rfl) rfl rfl (x_move rfl rfl) ?_)
              refine l_of (s_val (v := .bool (!decide ((0 : Int) = 0))) (wt0 rfl) rfl rfl (x_bin rfl rfl rfl b_neq) ?_)
              refine g_nil ?_
              refine g_then ?_
              refine g_cond_f rfl (nf rfl) ?_
              refine g_skip ?_
              refine g_then ?_
              refine g_weak [(2, .int .i64 lv), (3, .int .i64 dx), (4, .slice pe ne ce), (11, .pointer (some ⟨g, 0, none⟩))] ⟨rfl, rfl, rfl, rfl, trivial⟩ ?_
              refine g_seq ?_
              refine g_region ?_
              refine l_of (s_val (v := .int .i64 0) (wt0 rfl) rfl rfl (x_assign rfl rfl) ?_)
              refine l_of (s_val (v := .int .i64 0) (wt0 rfl) rfl rfl (x_assign rfl rfl) ?_)
              refine l_of (s_val (v := .int .i64 0) (wt0 rfl) rfl rfl (x_assign rfl rfl) ?_)
              refine g_nil ?_
              refine g_then ?_
              refine g_seq ?_
              refine g_seq ?_
              refine g_region ?_
              obtain ⟨lv2, rfl⟩ : ∃ lv2 : Nat, lv = (lv2 : Int) := ⟨lv.toNat, by omega⟩
              obtain ⟨qq, hqq⟩ : ∃ qq, qq = ne / lv2 := ⟨_, rfl⟩
              have hq1 : lv2 * qq ≤ ne := by rw [hqq, Nat.mul_comm]; exact Nat.div_mul_le_self ne lv2
              have hq2 : qq ≤ ne := by rw [hqq]; exact Nat.div_le_self _ _
              refine l_of (s_val (v := .int .i64 ((lv2 : Int))) (wt0 rfl) rfl rfl (x_move rfl rfl) ?_)
              refine l_of (s_val (v := .int .i64 0) (wt0 rfl) rfl rfl (x_move rfl rfl) ?_)
              refine g_nil ?_
              refine g_then ?_
              refine g_block ?_
              refine g_loop (ι := Nat × Nat × Rws × (Nat → Tk) × Int × Int × Int × Bool × Bool × Bool × Bool × Int) (fun (li, ii, rows, tk, tn, til, now, begun, whole, dn, st, fd) => [(2, .int .i64 ((lv2 : Int))), (3, .int .i64 dx), (4, .slice pe ne ce), (11, .pointer (some ⟨g, 0, none⟩)), (13, .int .i64 now), (14, .int .i64 ((ii : Int))), (15, .int .i64 fd), (60, .int .i64 ((lv2 : Int))), (61, .int .i64 ((li : Int)))]) (fun (li, ii, rows, tk, tn, til, now, begun, whole, dn, st, fd) wx => (li ≤ lv2) ∧ (ii = li * qq) ∧ (nr = rows.length) ∧ (Sane rows tk) ∧ (0 ≤ tn ∧ tn ≤ now ∧ now ≤ 999999000) ∧ (whole = true → dx < (ii : Int)) ∧ (0 ≤ fd ∧ fd ≤ 1 ∧ (whole = false → fd = 0)) ∧ (li = 0 → (∀ x ∈ adr rows, tk x = zeroT (tk x)) ∧ til = 0 ∧ begun = false ∧ dn = false ∧ st = false) ∧ (0 < li → st = true) ∧ S wx [Ob g (.cells #[.pointer none, .int .i64 0, .slice P nr C, (.map (some mg)), .int .i64 tn, .int .i64 til, .bool begun, .bool whole, .bool dn, .bool st] 64 (0, 0)), Rw 68 1 P nr C (rosV rows), RowsI 59 1 ptL rows, Fam 71 Tk.cells (adr rows) tk, Old w no]) (fun (li, ii, rows, tk, tn, til, now, begun, whole, dn, st, fd) => lv2 - li) (0, 0, rows, tk, 0, 0, 0, false, false, false, false, 0) ⟨rfl, rfl, rfl, rfl, rfl, rfl, rfl, rfl, rfl, trivial⟩ ⟨Nat.zero_le _, (Nat.zero_mul _).symm, hnr, hsane, (by omega), (fun h9 => by cases h9), (by omega), (fun _ => ⟨fun x hx => hnew.fresh x (List.mem_append_left _ hx), rfl, rfl, rfl, rfl⟩), (fun h9 => absurd h9 (by omega)), (H18.takes [0, 1, 2, 3, 5] (by decide))⟩ ?_
              rintro ⟨li, ii, rows, tk, tn, til, now, begun, whole, dn, st, fd⟩ wq23 ⟨hli, hii, hnrz, hsn, ht, hwh, hfd, hz, hst, H24⟩
              replace H24 : S wq23 [Ob g (.cells #[.pointer none, .int .i64 0, .slice P nr C, (.map (some mg)), .int .i64 tn, .int .i64 til, .bool begun, .bool whole, .bool dn, .bool st] 64 (0, 0)), Rw 68 1 P nr C (rosV rows), RowsI 59 1 ptL rows, Fam 71 Tk.cells (adr rows) tk, Old w no] := H24
              refine g_weak [(2, .int .i64 ((lv2 : Int))), (3, .int .i64 dx), (4, .slice pe ne ce), (11, .pointer (some ⟨g, 0, none⟩)), (13, .int .i64 now), (14, .int .i64 ((ii : Int))), (15, .int .i64 fd), (60, .int .i64 ((lv2 : Int))), (61, .int .i64 ((li : Int)))] ⟨rfl, rfl, rfl, rfl, rfl, rfl, rfl, rfl, rfl, trivial⟩ ?_
              have hrlz : ∀ r ∈ rows, r.l.length ≤ 1000 := fun r hr => by have := (hsn.lens r hr).2; omega
              have hnr2 : nr ≤ 1000 := by have := hsn.rl; omega
              refine g_seq ?_
              refine g_region ?_
              refine l_of (s_val (v := .bool (decide (((li : Int) : Int) < (lv2 : Int)))) (wt0 rfl) rfl rfl (x_bin rfl rfl rfl b_lss) ?_)
              refine g_nil ?_
              refine g_then ?_
              refine g_seq ?_
              by_cases hb25 : ((li : Int) : Int) < (lv2 : Int)
              · skip
                refine g_cond_t rfl (decide_eq_true hb25) ?_
                refine g_skip ?_
                refine g_then ?_
                refine g_seq ?_
                refine g_block ?_
                refine g_seq ?_
                refine g_region ?_
                refine l_of (s_val (v := .int .i64 ((li : Int))) (wt0 rfl) rfl rfl (x_move rfl rfl) ?_)
                refine l_of (s_val (v := .int .i64 ((li : Int))) (wt0 rfl) rfl rfl (x_assign rfl rfl) ?_)
                refine g_nil ?_
                refine g_then ?_
                refine g_seq ?_
                refine g_seq ?_
                refine g_cut (ι := (Nat → Tk)) (fun tk2 => [(2, .int .i64 ((lv2 : Int))), (3, .int .i64 dx), (4, .slice pe ne ce), (11, .pointer (some ⟨g, 0, none⟩)), (13, .int .i64 now), (14, .int .i64 ((ii : Int))), (15, .int .i64 fd), (60, .int .i64 ((lv2 : Int))), (61, .int .i64 ((li : Int))), (70, .bool false)]) (fun tk2 wx => (∀ x ∈ adr rows, tk2 x = zeroT (tk2 x)) ∧ (Sane rows tk2) ∧ S wx [Ob g (.cells #[.pointer none, .int .i64 0, .slice P nr C, (.map (some mg)), .int .i64 tn, .int .i64 0, .bool false, .bool whole, .bool false, .bool false] 64 (0, 0)), Rw 68 1 P nr C (rosV rows), RowsI 59 1 ptL rows, Fam 71 Tk.cells (adr rows) tk2, Old w no]) ?_ ?_
                · skip
                  refine g_region ?_
                  refine l_of (s_val (v := .int .i64 ((li : Int))) (wt0 rfl) rfl rfl (x_move rfl rfl) ?_)
                  refine l_of (s_val (v := .bool (decide ((0 : Int) < (li : Int)))) (wt0 rfl) rfl rfl (x_bin rfl rfl rfl b_gtr) ?_)
                  refine l_of (s_val (v := .bool (decide ((0 : Int) < (li : Int)))) (wt0 rfl) rfl rfl (x_move rfl rfl) ?_)
                  by_cases hb26 : (0 : Int) < (li : Int)
                  · skip
                    obtain rfl : st = true := hst (by omega)
                    refine l_of (s_val (v := .pointer (some ⟨g, 0, none⟩)) (wt1 rfl rfl rfl rfl (decide_eq_true hb26)) rfl rfl (x_move rfl rfl) ?_)
                    refine l_of (s_call (wt1 rfl rfl rfl rfl (decide_eq_true hb26)) (x_call' rfl rfl cl16) (start_s hnrz hnr2 hrlz _ (H24.takes [0, 1, 2, 3] (by decide))) ?_)
                    rintro _ wq27 ⟨rfl, H28⟩
                    replace H28 : S wq27 [Ob g (.cells #[.pointer none, .int .i64 0, .slice P nr C, (.map (some mg)), .int .i64 tn, .int .i64 0, .bool false, .bool whole, .bool false, .bool false] 64 (0, 0)), Rw 68 1 P nr C (rosV rows), RowsI 59 1 ptL rows, Fam 71 Tk.cells (adr rows) (fun y => zeroT (tk y)), Old w no] := H24.absorbI (new := [Ob g (.cells #[.pointer none, .int .i64 0, .slice P nr C, (.map (some mg)), .int .i64 tn, .int .i64 0, .bool false, .bool whole, .bool false, .bool false] 64 (0, 0)), Rw 68 1 P nr C (rosV rows), RowsI 59 1 ptL rows, Fam 71 Tk.cells (adr rows) (fun y => zeroT (tk y))]) [0, 1, 2, 3] H28
                    refine b_ret rfl rfl ?_
                    refine l_of (s_val (v := .bool (!decide ((0 : Int) = 0))) (wt1 rfl rfl rfl rfl (decide_eq_true hb26)) rfl rfl (x_bin rfl rfl rfl b_neq) ?_)
                    refine l_of (s_val (v := .bool (!decide ((0 : Int) = 0))) (wt0 rfl) rfl rfl (x_pick_t rfl rfl (decide_eq_true hb26) rfl) ?_)
                    refine g_nil ?_
                    refine g_then ?_
                    refine g_mid ((fun y => zeroT (tk y))) ?_ ?_
                    · exact ⟨rfl, rfl, rfl, rfl, rfl, rfl, rfl, rfl, rfl, rfl, trivial⟩
                    · exact ⟨(fun x hx => rfl), (sane_zero hsn), H28⟩
                  · skip
                    obtain ⟨hz0, rfl, rfl, rfl, rfl⟩ := hz (by omega)
                    refine l_of (s_not (wn1 rfl rfl rfl rfl (decide_eq_false hb26)) rfl rfl ?_)
                    refine l_of (s_not (wn1 rfl rfl rfl rfl (decide_eq_false hb26)) rfl rfl ?_)
                    refine l_of (s_not (wn1 rfl rfl rfl rfl (decide_eq_false hb26)) rfl rfl ?_)
                    refine l_of (s_val (v := .bool false) (wt0 rfl) rfl rfl (x_pick_f rfl rfl (decide_eq_false hb26) rfl) ?_)
                    refine g_nil ?_
                    refine g_then ?_
                    refine g_mid (tk) ?_ ?_
                    · exact ⟨rfl, rfl, rfl, rfl, rfl, rfl, rfl, rfl, rfl, rfl, trivial⟩
                    · exact ⟨hz0, hsn, H24⟩
                rintro tk2 wq29 ⟨hz2, hsn2, H30⟩
                replace H30 : S wq29 [Ob g (.cells #[.pointer none, .int .i64 0, .slice P nr C, (.map (some mg)), .int .i64 tn, .int .i64 0, .bool false, .bool whole, .bool false, .bool false] 64 (0, 0)), Rw 68 1 P nr C (rosV rows), RowsI 59 1 ptL rows, Fam 71 Tk.cells (adr rows) tk2, Old w no] := H30
                refine g_weak [(2, .int .i64 ((lv2 : Int))), (3, .int .i64 dx), (4, .slice pe ne ce), (11, .pointer (some ⟨g, 0, none⟩)), (13, .int .i64 now), (14, .int .i64 ((ii : Int))), (15, .int .i64 fd), (60, .int .i64 ((lv2 : Int))), (61, .int .i64 ((li : Int))), (70, .bool false)] ⟨rfl, rfl, rfl, rfl, rfl, rfl, rfl, rfl, rfl, rfl, trivial⟩ ?_
                refine g_cond_f rfl rfl ?_
                refine g_skip ?_
                refine g_then ?_
                refine g_seq ?_
                refine g_region ?_
                refine l_of (s_val (v := .int .i64 0) (wt0 rfl) rfl rfl (x_assign rfl rfl) ?_)
                refine g_nil ?_
                refine g_then ?_
                refine g_seq ?_
                refine g_region ?_
                refine l_of (s_makeMap (α := Bool) Value.string Value.bool okT H30 (wt0 rfl) rfl rfl rfl ?_)
                intro ma wq31 H32
                replace H32 : S wq31 [Mp Value.string Value.bool okT ma (fun _ => none), Ob g (.cells #[.pointer none, .int .i64 0, .slice P nr C, (.map (some mg)), .int .i64 tn, .int .i64 0, .bool false, .bool whole, .bool false, .bool false] 64 (0, 0)), Rw 68 1 P nr C (rosV rows), RowsI 59 1 ptL rows, Fam 71 Tk.cells (adr rows) tk2, Old w no] := H32
                refine l_of (s_val (v := .map (some ma)) (wt0 rfl) rfl rfl (x_assign rfl rfl) ?_)
                refine g_nil ?_
                refine g_then ?_
                refine g_seq ?_
                refine g_seq ?_
                refine g_region ?_
                refine l_of (s_val (v := .slice pe ne ce) (wt0 rfl) rfl rfl (x_move rfl rfl) ?_)
                refine l_of (s_val (v := .int .i64 ((ne : Int))) (wt0 rfl) rfl rfl (x_lenl rfl rfl Try.underlying23) ?_)
                refine l_of (s_val (v := .int .i64 ((lv2 : Int))) (wt0 rfl) rfl rfl (x_move rfl rfl) ?_)
                refine l_of (s_val (v := .int .i64 ((qq : Int))) (wt0 rfl) rfl rfl (ex_cast (x_bin rfl rfl rfl (b_quo (by omega) (quo64 (by omega)))) (by rw [hqq]; rfl)) ?_)
                refine l_of (s_val (v := .int .i64 0) (wt0 rfl) rfl rfl (x_move rfl rfl) ?_)
                refine g_nil ?_
                refine g_then ?_
                refine g_block ?_
                refine g_loop (ι := Nat × Nat × Rws × (Nat → Tk) × Int × Int × Int × Bool × Bool × Bool × Int × Int × (ByteArray → Option Bool)) (fun (j, ii, rows, tk, tn, til, now, begun, whole, dn, sd, fd, MA) => [(2, .int .i64 ((lv2 : Int))), (3, .int .i64 dx), (4, .slice pe ne ce), (11, .pointer (some ⟨g, 0, none⟩)), (13, .int .i64 now), (14, .int .i64 ((ii : Int))), (15, .int .i64 fd), (17, .int .i64 sd), (18, .map (some ma)), (60, .int .i64 ((lv2 : Int))), (61, .int .i64 ((li : Int))), (75, .int .i64 ((qq : Int))), (76, .int .i64 ((j : Int)))]) (fun (j, ii, rows, tk, tn, til, now, begun, whole, dn, sd, fd, MA) wx => (j ≤ qq) ∧ (ii = li * qq + j) ∧ (nr = rows.length) ∧ (EL j rows tk tn til now begun whole dn sd fd dx ii MA) ∧ S wx [Ob g (.cells #[.pointer none, .int .i64 0, .slice P nr C, (.map (some mg)), .int .i64 tn, .int .i64 til, .bool begun, .bool whole, .bool dn, .bool false] 64 (0, 0)), Rw 68 1 P nr C (rosV rows), RowsI 59 1 ptL rows, Fam 71 Tk.cells (adr rows) tk, Mp Value.string Value.bool okT ma MA, Old w no]) (fun (j, ii, rows, tk, tn, til, now, begun, whole, dn, sd, fd, MA) => qq - j) (0, ii, rows, tk2, tn, 0, now, false, whole, false, 0, fd, (fun _ => none)) ⟨rfl, rfl, rfl, rfl, rfl, rfl, rfl, rfl, rfl, rfl, rfl, rfl, rfl, trivial⟩ ⟨Nat.zero_le _, (by omega), hnrz, (el_start hsn2 hz2 ht hwh hfd), (H32.takes [1, 2, 3, 4, 0, 5] (by decide))⟩ ?_
                rintro ⟨j, ii, rows, tk, tn, til, now, begun, whole, dn, sd, fd, MA⟩ wq33 ⟨hj, hij, hnrz, hE, H34⟩
                replace H34 : S wq33 [Ob g (.cells #[.pointer none, .int .i64 0, .slice P nr C, (.map (some mg)), .int .i64 tn, .int .i64 til, .bool begun, .bool whole, .bool dn, .bool false] 64 (0, 0)), Rw 68 1 P nr C (rosV rows), RowsI 59 1 ptL rows, Fam 71 Tk.cells (adr rows) tk, Mp Value.string Value.bool okT ma MA, Old w no] := H34
                refine g_weak [(2, .int .i64 ((lv2 : Int))), (3, .int .i64 dx), (4, .slice pe ne ce), (11, .pointer (some ⟨g, 0, none⟩)), (13, .int .i64 now), (14, .int .i64 ((ii : Int))), (15, .int .i64 fd), (17, .int .i64 sd), (18, .map (some ma)), (60, .int .i64 ((lv2 : Int))), (61, .int .i64 ((li : Int))), (75, .int .i64 ((qq : Int))), (76, .int .i64 ((j : Int)))] ⟨rfl, rfl, rfl, rfl, rfl, rfl, rfl, rfl, rfl, rfl, rfl, rfl, rfl, trivial⟩ ?_
                have hrlz : ∀ r ∈ rows, r.l.length ≤ 1000 := fun r hr => by have := (hE.sane.lens r hr).2; omega
                have hnr2 : nr ≤ 1000 := by have := hE.sane.rl; omega
                have hfd1 := hE.fin.1
                have hfd2 := hE.fin.2.1
                refine g_seq ?_
                refine g_region ?_
                refine l_of (s_val (v := .bool (decide (((j : Int) : Int) < (qq : Int)))) (wt0 rfl) rfl rfl (x_bin rfl rfl rfl b_lss) ?_)
                refine g_nil ?_
                refine g_then ?_
                refine g_seq ?_
                by_cases hb35 : ((j : Int) : Int) < (qq : Int)
                · skip
                  have hlt : ii < ne := by have h1 : (li + 1) * qq ≤ lv2 * qq := Nat.mul_le_mul_right qq (by omega); rw [Nat.succ_mul] at h1; omega
                  obtain ⟨xe, hxe⟩ : ∃ xe, es[ii]? = some xe := ⟨_, List.getElem?_eq_getElem (by omega)⟩
                  refine g_cond_t rfl (decide_eq_true hb35) ?_
                  refine g_skip ?_
                  refine g_then ?_
                  refine g_seq ?_
                  refine g_block ?_
                  refine g_seq ?_
                  refine g_seq ?_
                  refine g_cut (ι := Bool × Bool) (fun (whole2, dn2) => [(2, .int .i64 ((lv2 : Int))), (3, .int .i64 dx), (4, .slice pe ne ce), (11, .pointer (some ⟨g, 0, none⟩)), (13, .int .i64 now), (14, .int .i64 ((ii : Int))), (15, .int .i64 fd), (17, .int .i64 sd), (18, .map (some ma)), (60, .int .i64 ((lv2 : Int))), (61, .int .i64 ((li : Int))), (75, .int .i64 ((qq : Int))), (76, .int .i64 ((j : Int))), (85, .bool false)]) (fun (whole2, dn2) wx => (EL j rows tk tn til now begun whole2 dn2 sd fd dx (ii + 1) MA) ∧ S wx [Ob g (.cells #[.pointer none, .int .i64 0, .slice P nr C, (.map (some mg)), .int .i64 tn, .int .i64 til, .bool begun, .bool whole2, .bool dn2, .bool false] 64 (0, 0)), Rw 68 1 P nr C (rosV rows), RowsI 59 1 ptL rows, Fam 71 Tk.cells (adr rows) tk, Mp Value.string Value.bool okT ma MA, Old w no]) ?_ ?_
                  · skip
                    refine g_region ?_
                    refine l_of (s_val (v := .int .i64 ((ii : Int))) (wt0 rfl) rfl rfl (x_move rfl rfl) ?_)
                    refine l_of (s_val (v := .int .i64 dx) (wt0 rfl) rfl rfl (x_move rfl rfl) ?_)
                    refine l_of (s_val (v := .bool (decide (((ii : Int) : Int) = dx))) (wt0 rfl) rfl rfl (x_bin rfl rfl rfl b_eql) ?_)
                    refine l_of (s_val (v := .bool (decide (((ii : Int) : Int) = dx))) (wt0 rfl) rfl rfl (x_move rfl rfl) ?_)
                    by_cases hb36 : ((ii : Int) : Int) = dx
                    · skip
                      obtain ⟨rfl, hE2⟩ := hE.done (by omega)
                      refine l_of (s_val (v := .pointer (some ⟨g, 0, none⟩)) (wt1 rfl rfl rfl rfl (decide_eq_true hb36)) rfl rfl (x_move rfl rfl) ?_)
                      refine l_of (s_call (wt1 rfl rfl rfl rfl (decide_eq_true hb36)) (x_call' rfl rfl cl17) (done_y _ (H34.takes [0] (by decide))) ?_)
                      rintro _ wq37 ⟨rfl, H38⟩
                      replace H38 : S wq37 [Ob g (.cells #[.pointer none, .int .i64 0, .slice P nr C, (.map (some mg)), .int .i64 tn, .int .i64 til, .bool begun, .bool true, .bool true, .bool false] 64 (0, 0)), Rw 68 1 P nr C (rosV rows), RowsI 59 1 ptL rows, Fam 71 Tk.cells (adr rows) tk, Mp Value.string Value.bool okT ma MA, Old w no] := H34.absorbI (new := [Ob g (.cells #[.pointer none, .int .i64 0, .slice P nr C, (.map (some mg)), .int .i64 tn, .int .i64 til, .bool begun, .bool true, .bool true, .bool false] 64 (0, 0))]) [0] H38
                      refine b_ret rfl rfl ?_
                      refine l_of (s_val (v := .bool (!decide ((0 : Int) = 0))) (wt1 rfl rfl rfl rfl (decide_eq_true hb36)) rfl rfl (x_bin rfl rfl rfl b_neq) ?_)
                      refine l_of (s_val (v := .bool (!decide ((0 : Int) = 0))) (wt0 rfl) rfl rfl (x_pick_t rfl rfl (decide_eq_true hb36) rfl) ?_)
                      refine g_nil ?_
                      refine g_then ?_
                      refine g_mid (true, true) ?_ ?_
                      · exact ⟨rfl, rfl, rfl, rfl, rfl, rfl, rfl, rfl, rfl, rfl, rfl, rfl, rfl, rfl, trivial⟩
                      · exact ⟨hE2, H38⟩
                    · skip
                      have hE2 := hE.notdone
                      refine l_of (s_not (wn1 rfl rfl rfl rfl (decide_eq_false hb36)) rfl rfl ?_)
                      refine l_of (s_not (wn1 rfl rfl rfl rfl (decide_eq_false hb36)) rfl rfl ?_)
                      refine l_of (s_not (wn1 rfl rfl rfl rfl (decide_eq_false hb36)) rfl rfl ?_)
                      refine l_of (s_val (v := .bool false) (wt0 rfl) rfl rfl (x_pick_f rfl rfl (decide_eq_false hb36) rfl) ?_)
                      refine g_nil ?_
                      refine g_then ?_
                      refine g_mid (whole, dn) ?_ ?_
                      · exact ⟨rfl, rfl, rfl, rfl, rfl, rfl, rfl, rfl, rfl, rfl, rfl, rfl, rfl, rfl, trivial⟩
                      · exact ⟨hE2, H34⟩
                  rintro ⟨whole2, dn2⟩ wq39 ⟨hE2, H40⟩
                  replace H40 : S wq39 [Ob g (.cells #[.pointer none, .int .i64 0, .slice P nr C, (.map (some mg)), .int .i64 tn, .int .i64 til, .bool begun, .bool whole2, .bool dn2, .bool false] 64 (0, 0)), Rw 68 1 P nr C (rosV rows), RowsI 59 1 ptL rows, Fam 71 Tk.cells (adr rows) tk, Mp Value.string Value.bool okT ma MA, Old w no] := H40
                  refine g_weak [(2, .int .i64 ((lv2 : Int))), (3, .int .i64 dx), (4, .slice pe ne ce), (11, .pointer (some ⟨g, 0, none⟩)), (13, .int .i64 now), (14, .int .i64 ((ii : Int))), (15, .int .i64 fd), (17, .int .i64 sd), (18, .map (some ma)), (60, .int .i64 ((lv2 : Int))), (61, .int .i64 ((li : Int))), (75, .int .i64 ((qq : Int))), (76, .int .i64 ((j : Int))), (85, .bool false)] ⟨rfl, rfl, rfl, rfl, rfl, rfl, rfl, rfl, rfl, rfl, rfl, rfl, rfl, rfl, trivial⟩ ?_
                  refine g_cond_f rfl rfl ?_
                  refine g_skip ?_
                  refine g_then ?_
                  refine g_seq ?_
                  refine g_region ?_
                  refine l_of (s_val (v := .pointer (some ⟨g, 0, none⟩)) (wt0 rfl) rfl rfl (x_move rfl rfl) ?_)
                  refine l_of (s_val (v := .int .i64 now) (wt0 rfl) rfl rfl (x_move rfl rfl) ?_)
                  have hev := ev_ne2 begun dn2
                  have htn := hE2.htn
                  refine l_of (s_call (wt0 rfl) (x_call' rfl rfl cl10) (when_s hnrz hnr2 hrlz _ (H40.takes [0, 1, 2, 3] (by decide))) ?_)
                  rintro ee43 wq41 hor44
                  rcases hor44 with ⟨hl9, rfl, H42⟩ | ⟨hl0, hw9, rfl, H42⟩ | ⟨hl0, hw1, hw2, rfl, H42⟩
                  · skip
                    exact absurd (tellS_ok (by omega) (by omega)) hl9
                  · skip
                    replace H42 : S wq41 [Ob g (.cells #[.pointer none, .int .i64 0, .slice P nr C, (.map (some mg)), .int .i64 tn, .int .i64 til, .bool begun, .bool whole2, .bool dn2, .bool false] 64 (0, 0)), Rw 68 1 P nr C (rosV rows), RowsI 59 1 ptL rows, Fam 71 Tk.cells (adr rows) tk, Mp Value.string Value.bool okT ma MA, Old w no] := H40.absorbI (new := [Ob g (.cells #[.pointer none, .int .i64 0, .slice P nr C, (.map (some mg)), .int .i64 tn, .int .i64 til, .bool begun, .bool whole2, .bool dn2, .bool false] 64 (0, 0)), Rw 68 1 P nr C (rosV rows), RowsI 59 1 ptL rows, Fam 71 Tk.cells (adr rows) tk]) [0, 1, 2, 3] H42
                    refine b_ret rfl rfl ?_
                    refine l_of (s_val (v := .tuple #[.int .i64 0, .int .i64 8]) (wt0 rfl) rfl rfl (x_move rfl rfl) ?_)
                    refine l_of (s_val (v := .int .i64 0) (wt0 rfl) rfl rfl (x_extract rfl rfl rfl) ?_)
                    refine l_of (s_val (v := .int .i64 8) (wt0 rfl) rfl rfl (x_extract rfl rfl rfl) ?_)
                    refine l_of (s_val (v := .int .i64 0) (wt0 rfl) rfl rfl (x_assign rfl rfl) ?_)
                    refine l_of (s_val (v := .int .i64 8) (wt0 rfl) rfl rfl (x_assign rfl rfl) ?_)
                    refine g_nil ?_
                    refine g_then ?_
                    refine g_seq ?_
                    refine g_seq ?_
                    refine g_region ?_
                    refine l_of (s_val (v := .int .i64 8) (wt0 rfl) rfl rfl (x_move rfl rfl) ?_)
                    refine l_of (s_val (v := .bool (!decide ((8 : Int) = 0))) (wt0 rfl) rfl rfl (x_bin rfl rfl rfl b_neq) ?_)
                    refine l_of (s_val (v := .bool (!decide ((8 : Int) = 0))) (wt0 rfl) rfl rfl (x_move rfl rfl) ?_)
                    refine l_of (s_not (wn1 rfl rfl rfl rfl (by decide)) rfl rfl ?_)
                    refine l_of (s_not (wn1 rfl rfl rfl rfl (by decide)) rfl rfl ?_)
                    refine l_of (s_val (v := .bool true) (wt0 rfl) rfl rfl (x_pick_t rfl rfl (by decide) rfl) ?_)
                    refine g_nil ?_
                    refine g_then ?_
                    refine g_weak [(2, .int .i64 ((lv2 : Int))), (3, .int .i64 dx), (4, .slice pe ne ce), (11, .pointer (some ⟨g, 0, none⟩)), (14, .int .i64 ((ii : Int))), (15, .int .i64 fd), (17, .int .i64 sd), (18, .map (some ma)), (19, .int .i64 0), (60, .int .i64 ((lv2 : Int))), (61, .int .i64 ((li : Int))), (75, .int .i64 ((qq : Int))), (76, .int .i64 ((j : Int))), (97, .bool true)] ⟨rfl, rfl, rfl, rfl, rfl, rfl, rfl, rfl, rfl, rfl, rfl, rfl, rfl, rfl, trivial⟩ ?_
                    refine g_cond_t rfl rfl ?_
                    refine g_seq ?_
                    refine g_region ?_
                    refine l_of (s_call (wt0 rfl) (x_call' rfl rfl cl8) (awake_s _) ?_)
                    rintro _ wq45 ⟨rfl, H46⟩
                    replace H46 : S wq45 [Ob g (.cells #[.pointer none, .int .i64 0, .slice P nr C, (.map (some mg)), .int .i64 tn, .int .i64 til, .bool begun, .bool whole2, .bool dn2, .bool false] 64 (0, 0)), Rw 68 1 P nr C (rosV rows), RowsI 59 1 ptL rows, Fam 71 Tk.cells (adr rows) tk, Mp Value.string Value.bool okT ma MA, Old w no] := H42.absorb (new := []) H46
                    refine b_ret rfl rfl ?_
                    refine l_of (s_val (v := .bool true) (wt0 rfl) rfl rfl (x_assign rfl rfl) ?_)
                    refine g_nil ?_
                    refine g_then ?_
                    refine g_weak [(10, .bool true)] ⟨rfl, trivial⟩ ?_
                    refine g_ret ?_
                    refine g_then_ret ?_
                    refine g_in_ret ?_
                    refine g_then_ret ?_
                    refine g_then_ret ?_
                    refine g_in_ret ?_
                    refine g_then_ret ?_
                    refine g_in_ret ?_
                    refine g_then_ret ?_
                    refine g_then_ret ?_
                    refine g_in_ret ?_
                    refine g_then_ret ?_
                    refine fin_ret [.tmp 10] [.bool true] rfl ⟨rfl, trivial⟩ ?_
                    exact ⟨rfl, H46.mask [false, false, false, false, false, true]⟩
                  · skip
                    replace H42 : S wq41 [Ob g (.cells #[.pointer none, .int .i64 0, .slice P nr C, (.map (some mg)), .int .i64 now, .int .i64 til, .bool begun, .bool whole2, .bool dn2, .bool false] 64 (0, 0)), Rw 68 1 P nr C (rosV rows), RowsI 59 1 ptL rows, Fam 71 Tk.cells (adr rows) tk, Mp Value.string Value.bool okT ma MA, Old w no] := H40.absorbI (new := [Ob g (.cells #[.pointer none, .int .i64 0, .slice P nr C, (.map (some mg)), .int .i64 now, .int .i64 til, .bool begun, .bool whole2, .bool dn2, .bool false] 64 (0, 0)), Rw 68 1 P nr C (rosV rows), RowsI 59 1 ptL rows, Fam 71 Tk.cells (adr rows) tk]) [0, 1, 2, 3] H42
                    obtain ⟨wv, hwv⟩ : ∃ wv, wv = max (whenF (evS begun dn2 false) til tk (flatF 0 (lsOf rows))) now := ⟨_, rfl⟩
                    refine b_ret rfl rfl ?_
                    refine l_of (s_val (v := .tuple #[.int .i64 ((max (whenF (evS begun dn2 false) til tk (flatF 0 (lsOf rows))) now)), .int .i64 0]) (wt0 rfl) rfl rfl (x_move rfl rfl) ?_)
                    refine l_of (s_val (v := .int .i64 ((max (whenF (evS begun dn2 false) til tk (flatF 0 (lsOf rows))) now))) (wt0 rfl) rfl rfl (x_extract rfl rfl rfl) ?_)
                    refine l_of (s_val (v := .int .i64 0) (wt0 rfl) rfl rfl (x_extract rfl rfl rfl) ?_)
                    refine l_of (s_val (v := .int .i64 wv) (wt0 rfl) rfl rfl (ex_cast (x_assign rfl rfl) (by rw [hwv])) ?_)
                    refine l_of (s_val (v := .int .i64 0) (wt0 rfl) rfl rfl (x_assign rfl rfl) ?_)
                    refine g_nil ?_
                    refine g_then ?_
                    refine g_seq ?_
                    refine g_seq ?_
                    refine g_region ?_
                    refine l_of (s_val (v := .int .i64 0) (wt0 rfl) rfl rfl (x_move rfl rfl) ?_)
                    refine l_of (s_val (v := .bool (!decide ((0 : Int) = 0))) (wt0 rfl) rfl rfl (x_bin rfl rfl rfl b_neq) ?_)
                    refine l_of (s_val (v := .bool (!decide ((0 : Int) = 0))) (wt0 rfl) rfl rfl (x_move rfl rfl) ?_)
                    refine l_of (s_val (v := .int .i64 wv) (wt1 rfl rfl rfl rfl (nf rfl)) rfl rfl (x_move rfl rfl) ?_)
                    refine l_of (s_val (v := .bool (decide ((999999000 : Int) < wv))) (wt1 rfl rfl rfl rfl (nf rfl)) rfl rfl (x_bin rfl rfl rfl b_gtr) ?_)
                    refine l_of (s_val (v := .bool (decide ((999999000 : Int) < wv))) (wt0 rfl) rfl rfl (x_pick_f rfl rfl (nf rfl) rfl) ?_)
                    refine g_nil ?_
                    refine g_then ?_
                    refine g_weak [(2, .int .i64 ((lv2 : Int))), (3, .int .i64 dx), (4, .slice pe ne ce), (11, .pointer (some ⟨g, 0, none⟩)), (14, .int .i64 ((ii : Int))), (15, .int .i64 fd), (17, .int .i64 sd), (18, .map (some ma)), (19, .int .i64 wv), (60, .int .i64 ((lv2 : Int))), (61, .int .i64 ((li : Int))), (75, .int .i64 ((qq : Int))), (76, .int .i64 ((j : Int))), (97, .bool (decide ((999999000 : Int) < wv)))] ⟨rfl, rfl, rfl, rfl, rfl, rfl, rfl, rfl, rfl, rfl, rfl, rfl, rfl, rfl, trivial⟩ ?_
                    by_cases hb47 : (999999000 : Int) < wv
                    · skip
                      refine g_cond_t rfl (decide_eq_true hb47) ?_
                      refine g_seq ?_
                      refine g_region ?_
                      refine l_of (s_call (wt0 rfl) (x_call' rfl rfl cl8) (awake_s _) ?_)
                      rintro _ wq48 ⟨rfl, H49⟩
                      replace H49 : S wq48 [Ob g (.cells #[.pointer none, .int .i64 0, .slice P nr C, (.map (some mg)), .int .i64 now, .int .i64 til, .bool begun, .bool whole2, .bool dn2, .bool false] 64 (0, 0)), Rw 68 1 P nr C (rosV rows), RowsI 59 1 ptL rows, Fam 71 Tk.cells (adr rows) tk, Mp Value.string Value.bool okT ma MA, Old w no] := H42.absorb (new := []) H49
                      refine b_ret rfl rfl ?_
                      refine l_of (s_val (v := .bool true) (wt0 rfl) rfl rfl (x_assign rfl rfl) ?_)
                      refine g_nil ?_
                      refine g_then ?_
                      refine g_weak [(10, .bool true)] ⟨rfl, trivial⟩ ?_
                      refine g_ret ?_
                      refine g_then_ret ?_
                      refine g_in_ret ?_
                      refine g_then_ret ?_
                      refine g_then_ret ?_
                      refine g_in_ret ?_
                      refine g_then_ret ?_
                      refine g_in_ret ?_
                      refine g_then_ret ?_
                      refine g_then_ret ?_
                      refine g_in_ret ?_
                      refine g_then_ret ?_
                      refine fin_ret [.tmp 10] [.bool true] rfl ⟨rfl, trivial⟩ ?_
                      exact ⟨rfl, H49.mask [false, false, false, false, false, true]⟩
                    · skip
                      refine g_cond_f rfl (decide_eq_false hb47) ?_
                      refine g_skip ?_
                      refine g_then ?_
                      refine g_seq ?_
                      refine g_region ?_
                      refine l_of (s_val (v := .pointer (some ⟨g, 0, none⟩)) (wt0 rfl) rfl rfl (x_move rfl rfl) ?_)
                      refine l_of (s_val (v := .int .i64 wv) (wt0 rfl) rfl rfl (x_move rfl rfl) ?_)
                      refine l_of (s_call (wt0 rfl) (x_call' rfl rfl cl11) (next_s hnrz hnr2 hrlz _ (H42.takes [0, 1, 2, 3] (by decide))) ?_)
                      rintro ee58 wq56 hor59
                      rcases hor59 with ⟨hl9, rfl, H57⟩ | ⟨hl0, hno9, rfl, H57⟩ | ⟨i50, k51, x52, post, pre, hsp53, hl0, hno54, hok55, rfl, H57⟩
                      · skip
                        exact absurd (tellS_ok (by omega) (by omega)) hl9
                      · skip
                        obtain ⟨p9, hp1, hp2⟩ := hE2.some hev wv (by omega); exact absurd (hno9 p9 hp1) (by rw [hp2]; decide)
                      · skip
                        replace H57 : S wq56 [Ob g (.cells #[.pointer (some ⟨x52, 0, none⟩), .int .i64 ((evS begun dn2 false)), .slice P nr C, (.map (some mg)), .int .i64 wv, .int .i64 til, .bool begun, .bool whole2, .bool dn2, .bool false] 64 (0, 0)), Rw 68 1 P nr C (rosV rows), RowsI 59 1 ptL rows, Fam 71 Tk.cells (adr rows) tk, Mp Value.string Value.bool okT ma MA, Old w no] := H42.absorbI (new := [Ob g (.cells #[.pointer (some ⟨x52, 0, none⟩), .int .i64 ((evS begun dn2 false)), .slice P nr C, (.map (some mg)), .int .i64 wv, .int .i64 til, .bool begun, .bool whole2, .bool dn2, .bool false] 64 (0, 0)), Rw 68 1 P nr C (rosV rows), RowsI 59 1 ptL rows, Fam 71 Tk.cells (adr rows) tk]) [0, 1, 2, 3] H57
                        obtain ⟨r, hrow, hkx, hxa⟩ := place_at hsp53
                        have hrz := (hE2.sane.lens r (List.mem_of_getElem? hrow))
                        have hkl := (List.getElem?_eq_some_iff.1 hkx).1
                        have hil := (List.getElem?_eq_some_iff.1 hrow).1
                        have htk := hE2.trk x52 hxa
                        have hokT : okT (tk x52).name := Nat.le_trans (hE2.sane.size hxa) (by decide)
                        have hsd : sd = 0 ∨ sd = 1 := by rcases hE2.st with ⟨_, h9⟩ | ⟨_, h9⟩ <;> omega
                        refine b_ret rfl rfl ?_
                        refine l_of (s_val (v := .tuple #[.agg #[.int .i64 ((i50 : Int)), .int .i64 ((k51 : Int)), .int .i64 wv, .int .i64 ((evS begun dn2 false))], .int .i64 0]) (wt0 rfl) rfl rfl (x_move rfl rfl) ?_)
                        refine l_of (s_val (v := .agg #[.int .i64 ((i50 : Int)), .int .i64 ((k51 : Int)), .int .i64 wv, .int .i64 ((evS begun dn2 false))]) (wt0 rfl) rfl rfl (x_extract rfl rfl rfl) ?_)
                        refine l_of (s_val (v := .int .i64 0) (wt0 rfl) rfl rfl (x_extract rfl rfl rfl) ?_)
                        refine l_of (s_alloc H57 (wt0 rfl) rfl rfl rfl ze34 ?_)
                        intro g60 wq61 H62
                        refine l_of (s_store H62 0 (wt0 rfl) rfl rfl rfl rfl rfl sz34 rfl rfl (cs' := #[.int .i64 ((i50 : Int)), .int .i64 ((k51 : Int)), .int .i64 wv, .int .i64 ((evS begun dn2 false))]) rfl ?_)
                        intro wq63 H64
                        refine l_of (s_val (v := .int .i64 0) (wt0 rfl) rfl rfl (x_assign rfl rfl) ?_)
                        refine g_nil ?_
                        refine g_then ?_
                        refine g_seq ?_
                        refine g_region ?_
                        refine l_of (s_val (v := .pointer (some ⟨g, 0, none⟩)) (wt0 rfl) rfl rfl (x_move rfl rfl) ?_)
                        refine l_of (s_val (v := .pointer (some ⟨g60, 0, none⟩)) (wt0 rfl) rfl rfl (x_fieldAddr rfl rfl fo34_0 rfl) ?_)
                        refine l_of (s_val (v := .int .i64 ((i50 : Int))) (wt0 rfl) rfl rfl (x_load1 H64 0 rfl rfl Try.underlying3 rfl rfl rfl) ?_)
                        refine l_of (s_call (wt0 rfl) (x_call' rfl rfl cl12) (order_s hnrz hnr2 hrlz _ (H64.takes [1, 2, 3, 4] (by decide))) ?_)
                        rintro ee72 wq70 hor73
                        rcases hor73 with ⟨hq9, rfl, H71⟩ | ⟨j65, rr69, p67, c68, hq9, hrw66, rfl, H71⟩
                        · skip
                          omega
                        · skip
                          have hj9 : j65 = i50 := by omega
                          rw [hj9, hrow] at hrw66
                          obtain rfl := Option.some.inj hrw66
                          replace H71 : S wq70 [Rw 9 1 p67 r.l.length c68 (stV (namesT tk r.l)), Ob g (.cells #[.pointer (some ⟨x52, 0, none⟩), .int .i64 ((evS begun dn2 false)), .slice P nr C, (.map (some mg)), .int .i64 wv, .int .i64 til, .bool begun, .bool whole2, .bool dn2, .bool false] 64 (0, 0)), Rw 68 1 P nr C (rosV rows), RowsI 59 1 ptL rows, Fam 71 Tk.cells (adr rows) tk, Ob g60 (.cells #[.int .i64 ((i50 : Int)), .int .i64 ((k51 : Int)), .int .i64 wv, .int .i64 ((evS begun dn2 false))] 34 (0, 0)), Mp Value.string Value.bool okT ma MA, Old w no] := H64.absorbI (new := [Rw 9 1 p67 r.l.length c68 (stV (namesT tk r.l)), Ob g (.cells #[.pointer (some ⟨x52, 0, none⟩), .int .i64 ((evS begun dn2 false)), .slice P nr C, (.map (some mg)), .int .i64 wv, .int .i64 til, .bool begun, .bool whole2, .bool dn2, .bool false] 64 (0, 0)), Rw 68 1 P nr C (rosV rows), RowsI 59 1 ptL rows, Fam 71 Tk.cells (adr rows) tk]) [1, 2, 3, 4] H71
                          refine b_ret rfl rfl ?_
                          refine l_of (s_val (v := .tuple #[.slice p67 r.l.length c68, .int .i64 0]) (wt0 rfl) rfl rfl (x_move rfl rfl) ?_)
                          refine l_of (s_val (v := .slice p67 r.l.length c68) (wt0 rfl) rfl rfl (x_extract rfl rfl rfl) ?_)
                          refine l_of (s_val (v := .int .i64 0) (wt0 rfl) rfl rfl (x_extract rfl rfl rfl) ?_)
                          refine l_of (s_val (v := .slice p67 r.l.length c68) (wt0 rfl) rfl rfl (x_assign rfl rfl) ?_)
                          refine l_of (s_val (v := .int .i64 0) (wt0 rfl) rfl rfl (x_assign rfl rfl) ?_)
                          refine g_nil ?_
                          refine g_then ?_
                          refine g_weak [(2, .int .i64 ((lv2 : Int))), (3, .int .i64 dx), (4, .slice pe ne ce), (11, .pointer (some ⟨g, 0, none⟩)), (14, .int .i64 ((ii : Int))), (15, .int .i64 fd), (17, .int .i64 sd), (18, .map (some ma)), (19, .int .i64 wv), (20, .int .i64 0), (21, .pointer (some ⟨g60, 0, none⟩)), (22, .slice p67 r.l.length c68), (23, .int .i64 0), (60, .int .i64 ((lv2 : Int))), (61, .int .i64 ((li : Int))), (75, .int .i64 ((qq : Int))), (76, .int .i64 ((j : Int)))] ⟨rfl, rfl, rfl, rfl, rfl, rfl, rfl, rfl, rfl, rfl, rfl, rfl, rfl, rfl, rfl, rfl, rfl, trivial⟩ ?_
                          refine g_seq ?_
                          refine g_seq ?_
                          refine g_region ?_
                          refine l_of (s_val (v := .int .i64 0) (wt0 rfl) rfl rfl (x_move rfl rfl) ?_)
                          refine l_of (s_val (v := .bool (!decide ((0 : Int) = 0))) (wt0 rfl) rfl rfl (x_bin rfl rfl rfl b_neq) ?_)
                          refine l_of (s_val (v := .bool (!decide ((0 : Int) = 0))) (wt0 rfl) rfl rfl (x_move rfl rfl) ?_)
                          refine l_of (s_val (v := .int .i64 0) (wt1 rfl rfl rfl rfl (nf rfl)) rfl rfl (x_move rfl rfl) ?_)
                          refine l_of (s_val (v := .bool (!decide ((0 : Int) = 0))) (wt1 rfl rfl rfl rfl (nf rfl)) rfl rfl (x_bin rfl rfl rfl b_neq) ?_)
                          refine l_of (s_val (v := .bool (!decide ((0 : Int) = 0))) (wt0 rfl) rfl rfl (x_pick_f rfl rfl (nf rfl) rfl) ?_)
                          refine l_of (s_val (v := .bool (!decide ((0 : Int) = 0))) (wt0 rfl) rfl rfl (x_move rfl rfl) ?_)
                          refine l_of (s_val (v := .pointer (some ⟨g60, 1, none⟩)) (wt1 rfl rfl rfl rfl (nf rfl)) rfl rfl (x_fieldAddr rfl rfl fo34_1 rfl) ?_)
                          refine l_of (s_val (v := .int .i64 ((k51 : Int))) (wt1 rfl rfl rfl rfl (nf rfl)) rfl rfl (x_load1 H71 5 rfl rfl Try.underlying3 rfl rfl rfl) ?_)
                          refine l_of (s_val (v := .slice p67 r.l.length c68) (wt1 rfl rfl rfl rfl (nf rfl)) rfl rfl (x_move rfl rfl) ?_)
                          refine l_of (s_val (v := .int .i64 ((r.l.length : Int))) (wt1 rfl rfl rfl rfl (nf rfl)) rfl rfl (x_lenl rfl rfl Try.underlying37) ?_)
                          refine l_of (s_val (v := .bool (decide (((r.l.length : Int) : Int) ≤ (k51 : Int)))) (wt1 rfl rfl rfl rfl (nf rfl)) rfl rfl (x_bin rfl rfl rfl b_geq) ?_)
                          refine l_of (s_val (v := .bool (decide (((r.l.length : Int) : Int) ≤ (k51 : Int)))) (wt0 rfl) rfl rfl (x_pick_f rfl rfl (nf rfl) rfl) ?_)
                          refine l_of (s_val (v := .bool (decide (((r.l.length : Int) : Int) ≤ (k51 : Int)))) (wt0 rfl) rfl rfl (x_move rfl rfl) ?_)
                          by_cases hb74 : ((r.l.length : Int) : Int) ≤ (k51 : Int)
                          · skip
                            refine l_of (s_not (wn1 rfl rfl rfl rfl (decide_eq_true hb74)) rfl rfl ?_)
                            refine l_of (s_not (wn1 rfl rfl rfl rfl (decide_eq_true hb74)) rfl rfl ?_)
                            refine l_of (s_not (wn1 rfl rfl rfl rfl (decide_eq_true hb74)) rfl rfl ?_)
                            refine l_of (s_val (v := .bool true) (wt0 rfl) rfl rfl (x_pick_t rfl rfl (decide_eq_true hb74) rfl) ?_)
                            refine l_of (s_val (v := .bool true) (wt0 rfl) rfl rfl (x_move rfl rfl) ?_)
                            refine l_of (s_not (wn1 rfl rfl rfl rfl rfl) rfl rfl ?_)
                            refine l_of (s_not (wn1 rfl rfl rfl rfl rfl) rfl rfl ?_)
                            refine l_of (s_not (wn1 rfl rfl rfl rfl rfl) rfl rfl ?_)
                            refine l_of (s_not (wn2 rfl rfl rfl rfl) rfl rfl ?_)
                            refine l_of (s_not (wn2 rfl rfl rfl rfl) rfl rfl ?_)
                            refine l_of (s_not (wn2 rfl rfl rfl rfl) rfl rfl ?_)
                            refine l_of (s_not (wn1 rfl rfl rfl rfl rfl) rfl rfl ?_)
                            refine l_of (s_val (v := .bool true) (wt0 rfl) rfl rfl (x_pick_t rfl rfl rfl rfl) ?_)
                            refine l_of (s_val (v := .bool true) (wt0 rfl) rfl rfl (x_move rfl rfl) ?_)
                            refine l_of (s_not (wn1 rfl rfl rfl rfl rfl) rfl rfl ?_)
                            refine l_of (s_not (wn1 rfl rfl rfl rfl rfl) rfl rfl ?_)
                            refine l_of (s_not (wn1 rfl rfl rfl rfl rfl) rfl rfl ?_)
                            refine l_of (s_not (wn2 rfl rfl rfl rfl) rfl rfl ?_)
                            refine l_of (s_not (wn2 rfl rfl rfl rfl) rfl rfl ?_)
                            refine l_of (s_not (wn2 rfl rfl rfl rfl) rfl rfl ?_)
                            refine l_of (s_not (wn1 rfl rfl rfl rfl rfl) rfl rfl ?_)
                            refine l_of (s_val (v := .bool true) (wt0 rfl) rfl rfl (x_pick_t rfl rfl rfl rfl) ?_)
                            refine g_nil ?_
                            refine g_then ?_
                            refine g_weak [(2, .int .i64 ((lv2 : Int))), (3, .int .i64 dx), (4, .slice pe ne ce), (11, .pointer (some ⟨g, 0, none⟩)), (14, .int .i64 ((ii : Int))), (15, .int .i64 fd), (17, .int .i64 sd), (18, .map (some ma)), (19, .int .i64 wv), (21, .pointer (some ⟨g60, 0, none⟩)), (22, .slice p67 r.l.length c68), (60, .int .i64 ((lv2 : Int))), (61, .int .i64 ((li : Int))), (75, .int .i64 ((qq : Int))), (76, .int .i64 ((j : Int))), (147, .bool true)] ⟨rfl, rfl, rfl, rfl, rfl, rfl, rfl, rfl, rfl, rfl, rfl, rfl, rfl, rfl, rfl, rfl, trivial⟩ ?_
                            refine g_cond_t rfl rfl ?_
                            refine g_seq ?_
                            refine g_region ?_
                            refine l_of (s_val (v := .bool false) (wt0 rfl) rfl rfl (x_assign rfl rfl) ?_)
                            refine g_nil ?_
                            refine g_then ?_
                            refine g_weak [(10, .bool false)] ⟨rfl, trivial⟩ ?_
                            refine g_ret ?_
                            refine g_then_ret ?_
                            refine g_in_ret ?_
                            refine g_then_ret ?_
                            refine g_then_ret ?_
                            refine g_in_ret ?_
                            refine g_then_ret ?_
                            refine g_in_ret ?_
                            refine g_then_ret ?_
                            refine g_then_ret ?_
                            refine g_in_ret ?_
                            refine g_then_ret ?_
                            refine fin_ret [.tmp 10] [.bool false] rfl ⟨rfl, trivial⟩ ?_
                            exfalso; omega
                          · skip
                            refine l_of (s_val (v := .pointer (some ⟨g60, 3, none⟩)) (wt1 rfl rfl rfl rfl (decide_eq_false hb74)) rfl rfl (x_fieldAddr rfl rfl fo34_3 rfl) ?_)
                            refine l_of (s_val (v := .int .i64 ((evS begun dn2 false))) (wt1 rfl rfl rfl rfl (decide_eq_false hb74)) rfl rfl (x_load1 H71 5 rfl rfl Try.underlying3 rfl rfl rfl) ?_)
                            refine l_of (s_val (v := .bool (decide (((evS begun dn2 false) : Int) = 2))) (wt1 rfl rfl rfl rfl (decide_eq_false hb74)) rfl rfl (x_bin rfl rfl rfl b_eql) ?_)
                            refine l_of (s_val (v := .bool (decide (((evS begun dn2 false) : Int) = 2))) (wt0 rfl) rfl rfl (x_pick_f rfl rfl (decide_eq_false hb74) rfl) ?_)
                            refine l_of (s_val (v := .bool (decide (((evS begun dn2 false) : Int) = 2))) (wt0 rfl) rfl rfl (x_move rfl rfl) ?_)
                            refine l_of (s_val (v := .int .i64 sd) (wt1 rfl rfl rfl rfl (decide_eq_false hev)) rfl rfl (x_move rfl rfl) ?_)
                            refine l_of (s_val (v := .bool (decide ((sd : Int) = 0))) (wt1 rfl rfl rfl rfl (decide_eq_false hev)) rfl rfl (x_bin rfl rfl rfl b_eql) ?_)
                            refine l_of (s_val (v := .bool (decide ((sd : Int) = 0))) (wt1 rfl rfl rfl rfl (decide_eq_false hev)) rfl rfl (x_move rfl rfl) ?_)
                            by_cases hb75 : (sd : Int) = 0
                            · skip
                              have hev1 := hE2.event.1 (by omega)
                              refine l_of (s_val (v := .pointer (some ⟨g60, 3, none⟩)) (wt1 rfl rfl rfl rfl (decide_eq_true hb75)) rfl rfl (x_fieldAddr rfl rfl fo34_3 rfl) ?_)
                              refine l_of (s_val (v := .int .i64 ((evS begun dn2 false))) (wt1 rfl rfl rfl rfl (decide_eq_true hb75)) rfl rfl (x_load1 H71 5 rfl rfl Try.underlying3 rfl rfl rfl) ?_)
                              refine l_of (s_val (v := .bool (!decide (((evS begun dn2 false) : Int) = 1))) (wt1 rfl rfl rfl rfl (decide_eq_true hb75)) rfl rfl (x_bin rfl rfl rfl b_neq) ?_)
                              refine l_of (s_val (v := .bool (!decide (((evS begun dn2 false) : Int) = 1))) (wt1 rfl rfl rfl rfl (decide_eq_false hev)) rfl rfl (x_pick_t rfl rfl (decide_eq_true hb75) rfl) ?_)
                              refine l_of (s_val (v := .bool (!decide (((evS begun dn2 false) : Int) = 1))) (wt0 rfl) rfl rfl (x_pick_f rfl rfl (decide_eq_false hev) rfl) ?_)
                              refine l_of (s_val (v := .bool (!decide (((evS begun dn2 false) : Int) = 1))) (wt0 rfl) rfl rfl (x_move rfl rfl) ?_)
                              by_cases hb76 : ((evS begun dn2 false) : Int) = 1
                              · skip
                                refine l_of (s_val (v := .int .i64 sd) (wt1 rfl rfl rfl rfl (nf hb76)) rfl rfl (x_move rfl rfl) ?_)
                                refine l_of (s_val (v := .bool (decide ((0 : Int) < sd))) (wt1 rfl rfl rfl rfl (nf hb76)) rfl rfl (x_bin rfl rfl rfl b_gtr) ?_)
                                refine l_of (s_val (v := .bool (decide ((0 : Int) < sd))) (wt1 rfl rfl rfl rfl (nf hb76)) rfl rfl (x_move rfl rfl) ?_)
                                refine l_of (s_not (wn1 rfl rfl rfl rfl (decide_eq_false (by omega))) rfl rfl ?_)
                                refine l_of (s_not (wn1 rfl rfl rfl rfl (decide_eq_false (by omega))) rfl rfl ?_)
                                refine l_of (s_not (wn1 rfl rfl rfl rfl (decide_eq_false (by omega))) rfl rfl ?_)
                                refine l_of (s_val (v := .bool false) (wt1 rfl rfl rfl rfl (nf hb76)) rfl rfl (x_pick_f rfl rfl (decide_eq_false (by omega)) rfl) ?_)
                                refine l_of (s_val (v := .bool false) (wt0 rfl) rfl rfl (x_pick_f rfl rfl (nf hb76) rfl) ?_)
                                refine g_nil ?_
                                refine g_then ?_
                                refine g_weak [(2, .int .i64 ((lv2 : Int))), (3, .int .i64 dx), (4, .slice pe ne ce), (11, .pointer (some ⟨g, 0, none⟩)), (14, .int .i64 ((ii : Int))), (15, .int .i64 fd), (17, .int .i64 sd), (18, .map (some ma)), (19, .int .i64 wv), (21, .pointer (some ⟨g60, 0, none⟩)), (22, .slice p67 r.l.length c68), (60, .int .i64 ((lv2 : Int))), (61, .int .i64 ((li : Int))), (75, .int .i64 ((qq : Int))), (76, .int .i64 ((j : Int))), (147, .bool false)] ⟨rfl, rfl, rfl, rfl, rfl, rfl, rfl, rfl, rfl, rfl, rfl, rfl, rfl, rfl, rfl, rfl, trivial⟩ ?_
                                refine g_cond_f rfl rfl ?_
                                refine g_skip ?_
                                refine g_then ?_
                                refine g_seq ?_
                                refine g_region ?_
                                refine l_of (s_val (v := .int .i64 wv) (wt0 rfl) rfl rfl (x_move rfl rfl) ?_)
                                refine l_of (s_val (v := .int .i64 wv) (wt0 rfl) rfl rfl (x_assign rfl rfl) ?_)
                                refine g_nil ?_
                                refine g_then ?_
                                refine g_seq ?_
                                refine g_seq ?_
                                refine g_region ?_
                                refine l_of (s_val (v := .slice pe ne ce) (wt0 rfl) rfl rfl (x_move rfl rfl) ?_)
                                refine l_of (s_val (v := .int .i64 ((ii : Int))) (wt0 rfl) rfl rfl (x_move rfl rfl) ?_)
                                refine l_of (s_val (v := .pointer ((pe).map fun q => q.add (ii * 1))) (wt0 rfl) rfl rfl (x_idxR ii (H71.oldReads (k := 7) rfl he) rfl rfl rfl Try.underlying23 sz3 (by omega)) ?_)
                                refine l_of (s_val (v := .int .i64 xe) (wt0 rfl) rfl rfl (x_loadR1 ii (H71.oldReads (k := 7) rfl he) (by omega) rfl rfl Try.underlying3 rfl (ints_at hxe)) ?_)
                                refine l_of (s_val (v := .int .i64 ((xe.tmod 2))) (wt0 rfl) rfl rfl (x_bin rfl rfl rfl (b_rem (by decide) rfl)) ?_)
                                refine l_of (s_val (v := .bool (decide (((xe.tmod 2) : Int) = 0))) (wt0 rfl) rfl rfl (x_bin rfl rfl rfl b_eql) ?_)
                                refine g_nil ?_
                                refine g_then ?_
                                by_cases hb77 : ((xe.tmod 2) : Int) = 0
                                · skip
                                  refine g_cond_t rfl (decide_eq_true hb77) ?_
                                  refine g_region ?_
                                  refine l_of (s_val (v := .pointer (some ⟨g, 0, none⟩)) (wt0 rfl) rfl rfl (x_move rfl rfl) ?_)
                                  refine l_of (s_val (v := .int .i64 wv) (wt0 rfl) rfl rfl (x_move rfl rfl) ?_)
                                  refine l_of (s_call (wt0 rfl) (x_call' rfl rfl cl14) (fail_f hxa (by omega) (by omega) (by omega) _ (H71.takes [1, 4] (by decide))) ?_)
                                  rintro ee80 wq78 hor81
                                  rcases hor81 with ⟨hl9, rfl, H79⟩ | ⟨hl0, rfl, H79⟩
                                  · skip
                                    exact absurd (tellS_ok (by omega) (by omega)) hl9
                                  · skip
                                    replace H79 : S wq78 [Ob g (.cells #[.pointer none, .int .i64 0, .slice P nr C, (.map (some mg)), .int .i64 wv, .int .i64 til, .bool begun, .bool whole2, .bool dn2, .bool false] 64 (0, 0)), Fam 71 Tk.cells (adr rows) (upd tk x52 (⟨(tk x52).name, (tk x52).failed + 1, wv + waitS ((tk x52).failed + 1), (tk x52).ans, (tk x52).told || decide ((evS begun dn2 false) = 2)⟩ : Tk)), Rw 9 1 p67 r.l.length c68 (stV (namesT tk r.l)), Rw 68 1 P nr C (rosV rows), RowsI 59 1 ptL rows, Ob g60 (.cells #[.int .i64 ((i50 : Int)), .int .i64 ((k51 : Int)), .int .i64 wv, .int .i64 ((evS begun dn2 false))] 34 (0, 0)), Mp Value.string Value.bool okT ma MA, Old w no] := H71.absorbI (new := [Ob g (.cells #[.pointer none, .int .i64 0, .slice P nr C, (.map (some mg)), .int .i64 wv, .int .i64 til, .bool begun, .bool whole2, .bool dn2, .bool false] 64 (0, 0)), Fam 71 Tk.cells (adr rows) (upd tk x52 (⟨(tk x52).name, (tk x52).failed + 1, wv + waitS ((tk x52).failed + 1), (tk x52).ans, (tk x52).told || decide ((evS begun dn2 false) = 2)⟩ : Tk))]) [1, 4] H79
                                    refine b_ret rfl rfl ?_
                                    refine g_nil ?_
                                    refine g_then ?_
                                    refine g_weak [(2, .int .i64 ((lv2 : Int))), (3, .int .i64 dx), (4, .slice pe ne ce), (11, .pointer (some ⟨g, 0, none⟩)), (13, .int .i64 wv), (14, .int .i64 ((ii : Int))), (15, .int .i64 fd), (17, .int .i64 sd), (18, .map (some ma)), (60, .int .i64 ((lv2 : Int))), (61, .int .i64 ((li : Int))), (75, .int .i64 ((qq : Int))), (76, .int .i64 ((j : Int)))] ⟨rfl, rfl, rfl, rfl, rfl, rfl, rfl, rfl, rfl, rfl, rfl, rfl, rfl, trivial⟩ ?_
                                    refine g_region ?_
                                    refine l_of (s_val (v := .int .i64 ((ii : Int))) (wt0 rfl) rfl rfl (x_move rfl rfl) ?_)
                                    refine l_of (s_val (v := .int .i64 (((ii + 1 : Nat) : Int))) (wt0 rfl) rfl rfl (x_bin rfl rfl rfl (b_add (by rw [w64 (by omega)]; omega))) ?_)
                                    refine l_of (s_val (v := .int .i64 (((ii + 1 : Nat) : Int))) (wt0 rfl) rfl rfl (x_assign rfl rfl) ?_)
                                    refine g_nil ?_
                                    refine g_in ?_
                                    refine g_then ?_
                                    refine g_region ?_
                                    refine l_of (s_val (v := .int .i64 (((j + 1 : Nat) : Int))) (wt0 rfl) rfl rfl (x_bin rfl rfl rfl (b_add (by rw [w64 (by omega)]; omega))) ?_)
                                    refine l_of (s_val (v := .int .i64 (((j + 1 : Nat) : Int))) (wt0 rfl) rfl rfl (x_move rfl rfl) ?_)
                                    refine g_nil ?_
                                    refine g_then ?_
                                    refine g_round (i := (j, ii, rows, tk, tn, til, now, begun, whole, dn, sd, fd, MA)) ((j + 1), (ii + 1), rows, (upd tk x52 (⟨(tk x52).name, (tk x52).failed + 1, wv + waitS ((tk x52).failed + 1), (tk x52).ans, (tk x52).told || decide ((evS begun dn2 false) = 2)⟩ : Tk)), wv, til, wv, begun, whole2, dn2, sd, fd, MA) ?_ ?_ ?_
                                    · exact ⟨rfl, rfl, rfl, rfl, rfl, rfl, rfl, rfl, rfl, rfl, rfl, rfl, rfl, trivial⟩
                                    · exact ⟨by omega, (by omega), hnrz, (hE2.fail hxa (by omega) (by omega) hev), (H79.takes [0, 3, 4, 1, 6, 7] (by decide))⟩
                                    · (try dsimp only); omega
                                · skip
                                  refine g_cond_f rfl (decide_eq_false hb77) ?_
                                  refine g_seq ?_
                                  refine g_region ?_
                                  refine l_of (s_val (v := .pointer (some ⟨g, 0, none⟩)) (wt0 rfl) rfl rfl (x_move rfl rfl) ?_)
                                  refine l_of (s_val (v := .int .i64 wv) (wt0 rfl) rfl rfl (x_move rfl rfl) ?_)
                                  refine l_of (s_call (wt0 rfl) (x_call' rfl rfl cl15) (answer_s hnrz hnr2 hrlz hxa (by omega) _ (H71.takes [1, 2, 3, 4] (by decide))) ?_)
                                  rintro ee84 wq82 hor85
                                  rcases hor85 with ⟨hi9, rfl, H83⟩ | ⟨_, _, hl9, rfl, H83⟩ | ⟨_, _, hl0, he9, rfl, H83⟩ | ⟨_, _, hl0, he9, rfl, H83⟩
                                  · skip
                                    omega
                                  · skip
                                    exact absurd (tellS_ok (by omega) (by omega)) hl9
                                  · skip
                                    exact absurd he9 hev
                                  · skip
                                    replace H83 : S wq82 [Ob g (.cells #[.pointer none, .int .i64 0, .slice P nr C, (.map (some mg)), .int .i64 wv, .int .i64 ((wv + 1000)), .bool ((begun || decide ((evS begun dn2 false) = 1))), .bool whole2, .bool ((dn2 && !decide ((evS begun dn2 false) = 3))), .bool false] 64 (0, 0)), Rw 68 1 P nr C (rosV (rows.map (frontR x52))), RowsI 59 1 ptL (rows.map (frontR x52)), Fam 71 Tk.cells (adr (rows.map (frontR x52))) (upd tk x52 ⟨(tk x52).name, 0, 0, true, false⟩), Rw 9 1 p67 r.l.length c68 (stV (namesT tk r.l)), Ob g60 (.cells #[.int .i64 ((i50 : Int)), .int .i64 ((k51 : Int)), .int .i64 wv, .int .i64 ((evS begun dn2 false))] 34 (0, 0)), Mp Value.string Value.bool okT ma MA, Old w no] := H71.absorbI (new := [Ob g (.cells #[.pointer none, .int .i64 0, .slice P nr C, (.map (some mg)), .int .i64 wv, .int .i64 ((wv + 1000)), .bool ((begun || decide ((evS begun dn2 false) = 1))), .bool whole2, .bool ((dn2 && !decide ((evS begun dn2 false) = 3))), .bool false] 64 (0, 0)), Rw 68 1 P nr C (rosV (rows.map (frontR x52))), RowsI 59 1 ptL (rows.map (frontR x52)), Fam 71 Tk.cells (adr (rows.map (frontR x52))) (upd tk x52 ⟨(tk x52).name, 0, 0, true, false⟩)]) [1, 2, 3, 4] H83
                                    refine b_ret rfl rfl ?_
                                    refine g_nil ?_
                                    refine g_then ?_
                                    refine g_weak [(2, .int .i64 ((lv2 : Int))), (3, .int .i64 dx), (4, .slice pe ne ce), (11, .pointer (some ⟨g, 0, none⟩)), (13, .int .i64 wv), (14, .int .i64 ((ii : Int))), (15, .int .i64 fd), (17, .int .i64 sd), (18, .map (some ma)), (21, .pointer (some ⟨g60, 0, none⟩)), (22, .slice p67 r.l.length c68), (60, .int .i64 ((lv2 : Int))), (61, .int .i64 ((li : Int))), (75, .int .i64 ((qq : Int))), (76, .int .i64 ((j : Int)))] ⟨rfl, rfl, rfl, rfl, rfl, rfl, rfl, rfl, rfl, rfl, rfl, rfl, rfl, rfl, rfl, trivial⟩ ?_
                                    refine g_seq ?_
                                    refine g_region ?_
                                    refine l_of (s_val (v := .map (some ma)) (wt0 rfl) rfl rfl (x_move rfl rfl) ?_)
                                    refine l_of (s_val (v := .slice p67 r.l.length c68) (wt0 rfl) rfl rfl (x_move rfl rfl) ?_)
                                    refine l_of (s_val (v := .pointer (some ⟨g60, 1, none⟩)) (wt0 rfl) rfl rfl (x_fieldAddr rfl rfl fo34_1 rfl) ?_)
                                    refine l_of (s_val (v := .int .i64 ((k51 : Int))) (wt0 rfl) rfl rfl (x_load1 H83 5 rfl rfl Try.underlying3 rfl rfl rfl) ?_)
                                    refine l_of (s_val (v := .pointer ((p67).map fun q => q.add (k51 * 1))) (wt0 rfl) rfl rfl (x_idxR k51 (H83.rwReads (k := 4) rfl) rfl rfl rfl Try.underlying37 sz9 (by omega)) ?_)
                                    refine l_of (s_val (v := .string ((tk x52).name)) (wt0 rfl) rfl rfl (x_loadR1 k51 (H83.rwReads (k := 4) rfl) (by omega) rfl rfl Try.underlying9 rfl (stV_at (names_at hkx))) ?_)
                                    refine l_of (s_mapUpdate (x := (tk x52).name) (a := true) (strTy Try.underlying45 Try.underlying9) H83 6 (wt0 rfl) rfl rfl rfl rfl rfl rfl hokT ?_)
                                    intro wq86 H87
                                    replace H87 : S wq86 [Ob g (.cells #[.pointer none, .int .i64 0, .slice P nr C, (.map (some mg)), .int .i64 wv, .int .i64 ((wv + 1000)), .bool ((begun || decide ((evS begun dn2 false) = 1))), .bool whole2, .bool ((dn2 && !decide ((evS begun dn2 false) = 3))), .bool false] 64 (0, 0)), Rw 68 1 P nr C (rosV (rows.map (frontR x52))), RowsI 59 1 ptL (rows.map (frontR x52)), Fam 71 Tk.cells (adr (rows.map (frontR x52))) (upd tk x52 ⟨(tk x52).name, 0, 0, true, false⟩), Rw 9 1 p67 r.l.length c68 (stV (namesT tk r.l)), Ob g60 (.cells #[.int .i64 ((i50 : Int)), .int .i64 ((k51 : Int)), .int .i64 wv, .int .i64 ((evS begun dn2 false))] 34 (0, 0)), Mp Value.string Value.bool okT ma (upM MA (tk x52).name true), Old w no] := H87
                                    refine g_nil ?_
                                    refine g_then ?_
                                    refine g_seq ?_
                                    refine g_region ?_
                                    refine l_of (s_val (v := .pointer (some ⟨g60, 3, none⟩)) (wt0 rfl) rfl rfl (x_fieldAddr rfl rfl fo34_3 rfl) ?_)
                                    refine l_of (s_val (v := .int .i64 ((evS begun dn2 false))) (wt0 rfl) rfl rfl (x_load1 H87 5 rfl rfl Try.underlying3 rfl rfl rfl) ?_)
                                    refine g_nil ?_
                                    refine g_then ?_
                                    refine g_block ?_
                                    refine g_seq ?_
                                    refine g_region ?_
                                    refine l_of (s_val (v := .bool (decide (((evS begun dn2 false) : Int) = 1))) (wt0 rfl) rfl rfl (x_bin rfl rfl rfl b_eql) ?_)
                                    refine l_of (s_val (v := .bool (decide (((evS begun dn2 false) : Int) = 1))) (wt0 rfl) rfl rfl (x_assign rfl rfl) ?_)
                                    refine g_nil ?_
                                    refine g_then ?_
                                    refine g_cond_t rfl (decide_eq_true hb76) ?_
                                    refine g_region ?_
                                    refine l_of (s_val (v := .int .i64 sd) (wt0 rfl) rfl rfl (x_move rfl rfl) ?_)
                                    refine l_of (s_val (v := .int .i64 (sd + 1)) (wt0 rfl) rfl rfl (x_bin rfl rfl rfl (b_add (w64 (by omega)))) ?_)
                                    refine l_of (s_val (v := .int .i64 (sd + 1)) (wt0 rfl) rfl rfl (x_assign rfl rfl) ?_)
                                    refine g_nil ?_
                                    refine g_in ?_
                                    refine g_then ?_
                                    refine g_weak [(2, .int .i64 ((lv2 : Int))), (3, .int .i64 dx), (4, .slice pe ne ce), (11, .pointer (some ⟨g, 0, none⟩)), (13, .int .i64 wv), (14, .int .i64 ((ii : Int))), (15, .int .i64 fd), (17, .int .i64 (sd + 1)), (18, .map (some ma)), (60, .int .i64 ((lv2 : Int))), (61, .int .i64 ((li : Int))), (75, .int .i64 ((qq : Int))), (76, .int .i64 ((j : Int)))] ⟨rfl, rfl, rfl, rfl, rfl, rfl, rfl, rfl, rfl, rfl, rfl, rfl, rfl, trivial⟩ ?_
                                    refine g_region ?_
                                    refine l_of (s_val (v := .int .i64 ((ii : Int))) (wt0 rfl) rfl rfl (x_move rfl rfl) ?_)
                                    refine l_of (s_val (v := .int .i64 (((ii + 1 : Nat) : Int))) (wt0 rfl) rfl rfl (x_bin rfl rfl rfl (b_add (by rw [w64 (by omega)]; omega))) ?_)
                                    refine l_of (s_val (v := .int .i64 (((ii + 1 : Nat) : Int))) (wt0 rfl) rfl rfl (x_assign rfl rfl) ?_)
                                    refine g_nil ?_
                                    refine g_in ?_
                                    refine g_then ?_
                                    refine g_region ?_
                                    refine l_of (s_val (v := .int .i64 (((j + 1 : Nat) : Int))) (wt0 rfl) rfl rfl (x_bin rfl rfl rfl (b_add (by rw [w64 (by omega)]; omega))) ?_)
                                    refine l_of (s_val (v := .int .i64 (((j + 1 : Nat) : Int))) (wt0 rfl) rfl rfl (x_move rfl rfl) ?_)
                                    refine g_nil ?_
                                    refine g_then ?_
                                    refine g_round (i := (j, ii, rows, tk, tn, til, now, begun, whole, dn, sd, fd, MA)) ((j + 1), (ii + 1), (rows.map (frontR x52)), (upd tk x52 ⟨(tk x52).name, 0, 0, true, false⟩), wv, (wv + 1000), wv, (begun || decide ((evS begun dn2 false) = 1)), whole2, (dn2 && !decide ((evS begun dn2 false) = 3)), (sd + 1), fd, (upM MA (tk x52).name true)) ?_ ?_ ?_
                                    · exact ⟨rfl, rfl, rfl, rfl, rfl, rfl, rfl, rfl, rfl, rfl, rfl, rfl, rfl, trivial⟩
                                    · exact ⟨by omega, (by omega), (by rw [List.length_map]; exact hnrz), (hE2.answer (iv := 1000) hxa (by omega) (by omega) (by omega) rfl (by omega)), (H87.takes [0, 1, 2, 3, 6, 7] (by decide))⟩
                                    · (try dsimp only); omega
                              · skip
                                refine l_of (s_not (wn1 rfl rfl rfl rfl (nt hb76)) rfl rfl ?_)
                                refine l_of (s_not (wn1 rfl rfl rfl rfl (nt hb76)) rfl rfl ?_)
                                refine l_of (s_not (wn1 rfl rfl rfl rfl (nt hb76)) rfl rfl ?_)
                                refine l_of (s_not (wn2 rfl rfl rfl rfl) rfl rfl ?_)
                                refine l_of (s_not (wn2 rfl rfl rfl rfl) rfl rfl ?_)
                                refine l_of (s_not (wn2 rfl rfl rfl rfl) rfl rfl ?_)
                                refine l_of (s_not (wn1 rfl rfl rfl rfl (nt hb76)) rfl rfl ?_)
                                refine l_of (s_val (v := .bool true) (wt0 rfl) rfl rfl (x_pick_t rfl rfl (nt hb76) rfl) ?_)
                                refine g_nil ?_
                                refine g_then ?_
                                refine g_weak [(2, .int .i64 ((lv2 : Int))), (3, .int .i64 dx), (4, .slice pe ne ce), (11, .pointer (some ⟨g, 0, none⟩)), (14, .int .i64 ((ii : Int))), (15, .int .i64 fd), (17, .int .i64 sd), (18, .map (some ma)), (19, .int .i64 wv), (21, .pointer (some ⟨g60, 0, none⟩)), (22, .slice p67 r.l.length c68), (60, .int .i64 ((lv2 : Int))), (61, .int .i64 ((li : Int))), (75, .int .i64 ((qq : Int))), (76, .int .i64 ((j : Int))), (147, .bool true)] ⟨rfl, rfl, rfl, rfl, rfl, rfl, rfl, rfl, rfl, rfl, rfl, rfl, rfl, rfl, rfl, rfl, trivial⟩ ?_
                                refine g_cond_t rfl rfl ?_
                                refine g_seq ?_
                                refine g_region ?_
                                refine l_of (s_val (v := .bool false) (wt0 rfl) rfl rfl (x_assign rfl rfl) ?_)
                                refine g_nil ?_
                                refine g_then ?_
                                refine g_weak [(10, .bool false)] ⟨rfl, trivial⟩ ?_
                                refine g_ret ?_
                                refine g_then_ret ?_
                                refine g_in_ret ?_
                                refine g_then_ret ?_
                                refine g_then_ret ?_
                                refine g_in_ret ?_
                                refine g_then_ret ?_
                                refine g_in_ret ?_
                                refine g_then_ret ?_
                                refine g_then_ret ?_
                                refine g_in_ret ?_
                                refine g_then_ret ?_
                                refine fin_ret [.tmp 10] [.bool false] rfl ⟨rfl, trivial⟩ ?_
                                exfalso; omega
                            · skip
                              have hev1 := hE2.event.2 (by omega)
                              refine l_of (s_not (wn1 rfl rfl rfl rfl (decide_eq_false hb75)) rfl rfl ?_)
                              refine l_of (s_not (wn1 rfl rfl rfl rfl (decide_eq_false hb75)) rfl rfl ?_)
                              refine l_of (s_not (wn1 rfl rfl rfl rfl (decide_eq_false hb75)) rfl rfl ?_)
                              refine l_of (s_val (v := .bool false) (wt1 rfl rfl rfl rfl (decide_eq_false hev)) rfl rfl (x_pick_f rfl rfl (decide_eq_false hb75) rfl) ?_)
                              refine l_of (s_val (v := .bool false) (wt0 rfl) rfl rfl (x_pick_f rfl rfl (decide_eq_false hev) rfl) ?_)
                              refine l_of (s_val (v := .bool false) (wt0 rfl) rfl rfl (x_move rfl rfl) ?_)
                              refine l_of (s_val (v := .int .i64 sd) (wt1 rfl rfl rfl rfl rfl) rfl rfl (x_move rfl rfl) ?_)
                              refine l_of (s_val (v := .bool (decide ((0 : Int) < sd))) (wt1 rfl rfl rfl rfl rfl) rfl rfl (x_bin rfl rfl rfl b_gtr) ?_)
                              refine l_of (s_val (v := .bool (decide ((0 : Int) < sd))) (wt1 rfl rfl rfl rfl rfl) rfl rfl (x_move rfl rfl) ?_)
                              refine l_of (s_val (v := .pointer (some ⟨g60, 3, none⟩)) (wt1 rfl rfl rfl rfl (decide_eq_true (by omega))) rfl rfl (x_fieldAddr rfl rfl fo34_3 rfl) ?_)
                              refine l_of (s_val (v := .int .i64 ((evS begun dn2 false))) (wt1 rfl rfl rfl rfl (decide_eq_true (by omega))) rfl rfl (x_load1 H71 5 rfl rfl Try.underlying3 rfl rfl rfl) ?_)
                              refine l_of (s_val (v := .bool (decide (((evS begun dn2 false) : Int) = 1))) (wt1 rfl rfl rfl rfl (decide_eq_true (by omega))) rfl rfl (x_bin rfl rfl rfl b_eql) ?_)
                              refine l_of (s_val (v := .bool (decide (((evS begun dn2 false) : Int) = 1))) (wt1 rfl rfl rfl rfl rfl) rfl rfl (x_pick_t rfl rfl (decide_eq_true (by omega)) rfl) ?_)
                              refine l_of (s_val (v := .bool (decide (((evS begun dn2 false) : Int) = 1))) (wt0 rfl) rfl rfl (x_pick_f rfl rfl rfl rfl) ?_)
                              refine g_nil ?_
                              refine g_then ?_
                              refine g_weak [(2, .int .i64 ((lv2 : Int))), (3, .int .i64 dx), (4, .slice pe ne ce), (11, .pointer (some ⟨g, 0, none⟩)), (14, .int .i64 ((ii : Int))), (15, .int .i64 fd), (17, .int .i64 sd), (18, .map (some ma)), (19, .int .i64 wv), (21, .pointer (some ⟨g60, 0, none⟩)), (22, .slice p67 r.l.length c68), (60, .int .i64 ((lv2 : Int))), (61, .int .i64 ((li : Int))), (75, .int .i64 ((qq : Int))), (76, .int .i64 ((j : Int))), (147, .bool (decide (((evS begun dn2 false) : Int) = 1)))] ⟨rfl, rfl, rfl, rfl, rfl, rfl, rfl, rfl, rfl, rfl, rfl, rfl, rfl, rfl, rfl, rfl, trivial⟩ ?_
                              by_cases hb88 : ((evS begun dn2 false) : Int) = 1
                              · skip
                                refine g_cond_t rfl (decide_eq_true hb88) ?_
                                refine g_seq ?_
                                refine g_region ?_
                                refine l_of (s_val (v := .bool false) (wt0 rfl) rfl rfl (x_assign rfl rfl) ?_)
                                refine g_nil ?_
                                refine g_then ?_
                                refine g_weak [(10, .bool false)] ⟨rfl, trivial⟩ ?_
                                refine g_ret ?_
                                refine g_then_ret ?_
                                refine g_in_ret ?_
                                refine g_then_ret ?_
                                refine g_then_ret ?_
                                refine g_in_ret ?_
                                refine g_then_ret ?_
                                refine g_in_ret ?_
                                refine g_then_ret ?_
                                refine g_then_ret ?_
                                refine g_in_ret ?_
                                refine g_then_ret ?_
                                refine fin_ret [.tmp 10] [.bool false] rfl ⟨rfl, trivial⟩ ?_
                                exfalso; omega
                              · skip
                                refine g_cond_f rfl (decide_eq_false hb88) ?_
                                refine g_skip ?_
                                refine g_then ?_
                                refine g_seq ?_
                                refine g_region ?_
                                refine l_of (s_val (v := .int .i64 wv) (wt0 rfl) rfl rfl (x_move rfl rfl) ?_)
                                refine l_of (s_val (v := .int .i64 wv) (wt0 rfl) rfl rfl (x_assign rfl rfl) ?_)
                                refine g_nil ?_
                                refine g_then ?_
                                refine g_seq ?_
                                refine g_seq ?_
                                refine g_region ?_
                                refine l_of (s_val (v := .slice pe ne ce) (wt0 rfl) rfl rfl (x_move rfl rfl) ?_)
                                refine l_of (s_val (v := .int .i64 ((ii : Int))) (wt0 rfl) rfl rfl (x_move rfl rfl) ?_)
                                refine l_of (s_val (v := .pointer ((pe).map fun q => q.add (ii * 1))) (wt0 rfl) rfl rfl (x_idxR ii (H71.oldReads (k := 7) rfl he) rfl rfl rfl Try.underlying23 sz3 (by omega)) ?_)
                                refine l_of (s_val (v := .int .i64 xe) (wt0 rfl) rfl rfl (x_loadR1 ii (H71.oldReads (k := 7) rfl he) (by omega) rfl rfl Try.underlying3 rfl (ints_at hxe)) ?_)
                                refine l_of (s_val (v := .int .i64 ((xe.tmod 2))) (wt0 rfl) rfl rfl (x_bin rfl rfl rfl (b_rem (by decide) rfl)) ?_)
                                refine l_of (s_val (v := .bool (decide (((xe.tmod 2) : Int) = 0))) (wt0 rfl) rfl rfl (x_bin rfl rfl rfl b_eql) ?_)
                                refine g_nil ?_
                                refine g_then ?_
                                by_cases hb89 : ((xe.tmod 2) : Int) = 0
                                · skip
                                  refine g_cond_t rfl (decide_eq_true hb89) ?_
                                  refine g_region ?_
                                  refine l_of (s_val (v := .pointer (some ⟨g, 0, none⟩)) (wt0 rfl) rfl rfl (x_move rfl rfl) ?_)
                                  refine l_of (s_val (v := .int .i64 wv) (wt0 rfl) rfl rfl (x_move rfl rfl) ?_)
                                  refine l_of (s_call (wt0 rfl) (x_call' rfl rfl cl14) (fail_f hxa (by omega) (by omega) (by omega) _ (H71.takes [1, 4] (by decide))) ?_)
                                  rintro ee92 wq90 hor93
                                  rcases hor93 with ⟨hl9, rfl, H91⟩ | ⟨hl0, rfl, H91⟩
                                  · skip
                                    exact absurd (tellS_ok (by omega) (by omega)) hl9
                                  · skip
                                    replace H91 : S wq90 [Ob g (.cells #[.pointer none, .int .i64 0, .slice P nr C, (.map (some mg)), .int .i64 wv, .int .i64 til, .bool begun, .bool whole2, .bool dn2, .bool false] 64 (0, 0)), Fam 71 Tk.cells (adr rows) (upd tk x52 (⟨(tk x52).name, (tk x52).failed + 1, wv + waitS ((tk x52).failed + 1), (tk x52).ans, (tk x52).told || decide ((evS begun dn2 false) = 2)⟩ : Tk)), Rw 9 1 p67 r.l.length c68 (stV (namesT tk r.l)), Rw 68 1 P nr C (rosV rows), RowsI 59 1 ptL rows, Ob g60 (.cells #[.int .i64 ((i50 : Int)), .int .i64 ((k51 : Int)), .int .i64 wv, .int .i64 ((evS begun dn2 false))] 34 (0, 0)), Mp Value.string Value.bool okT ma MA, Old w no] := H71.absorbI (new := [Ob g (.cells #[.pointer none, .int .i64 0, .slice P nr C, (.map (some mg)), .int .i64 wv, .int .i64 til, .bool begun, .bool whole2, .bool dn2, .bool false] 64 (0, 0)), Fam 71 Tk.cells (adr rows) (upd tk x52 (⟨(tk x52).name, (tk x52).failed + 1, wv + waitS ((tk x52).failed + 1), (tk x52).ans, (tk x52).told || decide ((evS begun dn2 false) = 2)⟩ : Tk))]) [1, 4] H91
                                    refine b_ret rfl rfl ?_
                                    refine g_nil ?_
                                    refine g_then ?_
                                    refine g_weak [(2, .int .i64 ((lv2 : Int))), (3, .int .i64 dx), (4, .slice pe ne ce), (11, .pointer (some ⟨g, 0, none⟩)), (13, .int .i64 wv), (14, .int .i64 ((ii : Int))), (15, .int .i64 fd), (17, .int .i64 sd), (18, .map (some ma)), (60, .int .i64 ((lv2 : Int))), (61, .int .i64 ((li : Int))), (75, .int .i64 ((qq : Int))), (76, .int .i64 ((j : Int)))] ⟨rfl, rfl, rfl, rfl, rfl, rfl, rfl, rfl, rfl, rfl, rfl, rfl, rfl, trivial⟩ ?_
                                    refine g_region ?_
                                    refine l_of (s_val (v := .int .i64 ((ii : Int))) (wt0 rfl) rfl rfl (x_move rfl rfl) ?_)
                                    refine l_of (s_val (v := .int .i64 (((ii + 1 : Nat) : Int))) (wt0 rfl) rfl rfl (x_bin rfl rfl rfl (b_add (by rw [w64 (by omega)]; omega))) ?_)
                                    refine l_of (s_val (v := .int .i64 (((ii + 1 : Nat) : Int))) (wt0 rfl) rfl rfl (x_assign rfl rfl) ?_)
                                    refine g_nil ?_
                                    refine g_in ?_
                                    refine g_then ?_
                                    refine g_region ?_
                                    refine l_of (s_val (v := .int .i64 (((j + 1 : Nat) : Int))) (wt0 rfl) rfl rfl (x_bin rfl rfl rfl (b_add (by rw [w64 (by omega)]; omega))) ?_)
                                    refine l_of (s_val (v := .int .i64 (((j + 1 : Nat) : Int))) (wt0 rfl) rfl rfl (x_move rfl rfl) ?_)
                                    refine g_nil ?_
                                    refine g_then ?_
                                    refine g_round (i := (j, ii, rows, tk, tn, til, now, begun, whole, dn, sd, fd, MA)) ((j + 1), (ii + 1), rows, (upd tk x52 (⟨(tk x52).name, (tk x52).failed + 1, wv + waitS ((tk x52).failed + 1), (tk x52).ans, (tk x52).told || decide ((evS begun dn2 false) = 2)⟩ : Tk)), wv, til, wv, begun, whole2, dn2, sd, fd, MA) ?_ ?_ ?_
                                    · exact ⟨rfl, rfl, rfl, rfl, rfl, rfl, rfl, rfl, rfl, rfl, rfl, rfl, rfl, trivial⟩
                                    · exact ⟨by omega, (by omega), hnrz, (hE2.fail hxa (by omega) (by omega) hev), (H91.takes [0, 3, 4, 1, 6, 7] (by decide))⟩
                                    · (try dsimp only); omega
                                · skip
                                  refine g_cond_f rfl (decide_eq_false hb89) ?_
                                  refine g_seq ?_
                                  refine g_region ?_
                                  refine l_of (s_val (v := .pointer (some ⟨g, 0, none⟩)) (wt0 rfl) rfl rfl (x_move rfl rfl) ?_)
                                  refine l_of (s_val (v := .int .i64 wv) (wt0 rfl) rfl rfl (x_move rfl rfl) ?_)
                                  refine l_of (s_call (wt0 rfl) (x_call' rfl rfl cl15) (answer_s hnrz hnr2 hrlz hxa (by omega) _ (H71.takes [1, 2, 3, 4] (by decide))) ?_)
                                  rintro ee96 wq94 hor97
                                  rcases hor97 with ⟨hi9, rfl, H95⟩ | ⟨_, _, hl9, rfl, H95⟩ | ⟨_, _, hl0, he9, rfl, H95⟩ | ⟨_, _, hl0, he9, rfl, H95⟩
                                  · skip
                                    omega
                                  · skip
                                    exact absurd (tellS_ok (by omega) (by omega)) hl9
                                  · skip
                                    exact absurd he9 hev
                                  · skip
                                    replace H95 : S wq94 [Ob g (.cells #[.pointer none, .int .i64 0, .slice P nr C, (.map (some mg)), .int .i64 wv, .int .i64 ((wv + 1000)), .bool ((begun || decide ((evS begun dn2 false) = 1))), .bool whole2, .bool ((dn2 && !decide ((evS begun dn2 false) = 3))), .bool false] 64 (0, 0)), Rw 68 1 P nr C (rosV (rows.map (frontR x52))), RowsI 59 1 ptL (rows.map (frontR x52)), Fam 71 Tk.cells (adr (rows.map (frontR x52))) (upd tk x52 ⟨(tk x52).name, 0, 0, true, false⟩), Rw 9 1 p67 r.l.length c68 (stV (namesT tk r.l)), Ob g60 (.cells #[.int .i64 ((i50 : Int)), .int .i64 ((k51 : Int)), .int .i64 wv, .int .i64 ((evS begun dn2 false))] 34 (0, 0)), Mp Value.string Value.bool okT ma MA, Old w no] := H71.absorbI (new := [Ob g (.cells #[.pointer none, .int .i64 0, .slice P nr C, (.map (some mg)), .int .i64 wv, .int .i64 ((wv + 1000)), .bool ((begun || decide ((evS begun dn2 false) = 1))), .bool whole2, .bool ((dn2 && !decide ((evS begun dn2 false) = 3))), .bool false] 64 (0, 0)), Rw 68 1 P nr C (rosV (rows.map (frontR x52))), RowsI 59 1 ptL (rows.map (frontR x52)), Fam 71 Tk.cells (adr (rows.map (frontR x52))) (upd tk x52 ⟨(tk x52).name, 0, 0, true, false⟩)]) [1, 2, 3, 4] H95
                                    refine b_ret rfl rfl ?_
                                    refine g_nil ?_
                                    refine g_then ?_
                                    refine g_weak [(2, .int .i64 ((lv2 : Int))), (3, .int .i64 dx), (4, .slice pe ne ce), (11, .pointer (some ⟨g, 0, none⟩)), (13, .int .i64 wv), (14, .int .i64 ((ii : Int))), (15, .int .i64 fd), (17, .int .i64 sd), (18, .map (some ma)), (21, .pointer (some ⟨g60, 0, none⟩)), (22, .slice p67 r.l.length c68), (60, .int .i64 ((lv2 : Int))), (61, .int .i64 ((li : Int))), (75, .int .i64 ((qq : Int))), (76, .int .i64 ((j : Int)))] ⟨rfl, rfl, rfl, rfl, rfl, rfl, rfl, rfl, rfl, rfl, rfl, rfl, rfl, rfl, rfl, trivial⟩ ?_
                                    refine g_seq ?_
                                    refine g_region ?_
                                    refine l_of (s_val (v := .map (some ma)) (wt0 rfl) rfl rfl (x_move rfl rfl) ?_)
                                    refine l_of (s_val (v := .slice p67 r.l.length c68) (wt0 rfl) rfl rfl (x_move rfl rfl) ?_)
                                    refine l_of (s_val (v := .pointer (some ⟨g60, 1, none⟩)) (wt0 rfl) rfl rfl (x_fieldAddr rfl rfl fo34_1 rfl) ?_)
                                    refine l_of (s_val (v := .int .i64 ((k51 : Int))) (wt0 rfl) rfl rfl (x_load1 H95 5 rfl rfl Try.underlying3 rfl rfl rfl) ?_)
                                    refine l_of (s_val (v := .pointer ((p67).map fun q => q.add (k51 * 1))) (wt0 rfl) rfl rfl (x_idxR k51 (H95.rwReads (k := 4) rfl) rfl rfl rfl Try.underlying37 sz9 (by omega)) ?_)
                                    refine l_of (s_val (v := .string ((tk x52).name)) (wt0 rfl) rfl rfl (x_loadR1 k51 (H95.rwReads (k := 4) rfl) (by omega) rfl rfl Try.underlying9 rfl (stV_at (names_at hkx))) ?_)
                                    refine l_of (s_mapUpdate (x := (tk x52).name) (a := true) (strTy Try.underlying45 Try.underlying9) H95 6 (wt0 rfl) rfl rfl rfl rfl rfl rfl hokT ?_)
                                    intro wq98 H99
                                    replace H99 : S wq98 [Ob g (.cells #[.pointer none, .int .i64 0, .slice P nr C, (.map (some mg)), .int .i64 wv, .int .i64 ((wv + 1000)), .bool ((begun || decide ((evS begun dn2 false) = 1))), .bool whole2, .bool ((dn2 && !decide ((evS begun dn2 false) = 3))), .bool false] 64 (0, 0)), Rw 68 1 P nr C (rosV (rows.map (frontR x52))), RowsI 59 1 ptL (rows.map (frontR x52)), Fam 71 Tk.cells (adr (rows.map (frontR x52))) (upd tk x52 ⟨(tk x52).name, 0, 0, true, false⟩), Rw 9 1 p67 r.l.length c68 (stV (namesT tk r.l)), Ob g60 (.cells #[.int .i64 ((i50 : Int)), .int .i64 ((k51 : Int)), .int .i64 wv, .int .i64 ((evS begun dn2 false))] 34 (0, 0)), Mp Value.string Value.bool okT ma (upM MA (tk x52).name true), Old w no] := H99
                                    refine g_nil ?_
                                    refine g_then ?_
                                    refine g_seq ?_
                                    refine g_region ?_
                                    refine l_of (s_val (v := .pointer (some ⟨g60, 3, none⟩)) (wt0 rfl) rfl rfl (x_fieldAddr rfl rfl fo34_3 rfl) ?_)
                                    refine l_of (s_val (v := .int .i64 ((evS begun dn2 false))) (wt0 rfl) rfl rfl (x_load1 H99 5 rfl rfl Try.underlying3 rfl rfl rfl) ?_)
                                    refine g_nil ?_
                                    refine g_then ?_
                                    refine g_block ?_
                                    refine g_seq ?_
                                    refine g_region ?_
                                    refine l_of (s_val (v := .bool (decide (((evS begun dn2 false) : Int) = 1))) (wt0 rfl) rfl rfl (x_bin rfl rfl rfl b_eql) ?_)
                                    refine l_of (s_val (v := .bool (decide (((evS begun dn2 false) : Int) = 1))) (wt0 rfl) rfl rfl (x_assign rfl rfl) ?_)
                                    refine g_nil ?_
                                    refine g_then ?_
                                    refine g_cond_f rfl (decide_eq_false hb88) ?_
                                    refine g_seq ?_
                                    refine g_region ?_
                                    refine l_of (s_val (v := .bool (decide (((evS begun dn2 false) : Int) = 3))) (wt0 rfl) rfl rfl (x_bin rfl rfl rfl b_eql) ?_)
                                    refine l_of (s_val (v := .bool (decide (((evS begun dn2 false) : Int) = 3))) (wt0 rfl) rfl rfl (x_assign rfl rfl) ?_)
                                    refine g_nil ?_
                                    refine g_then ?_
                                    refine g_weak [(2, .int .i64 ((lv2 : Int))), (3, .int .i64 dx), (4, .slice pe ne ce), (11, .pointer (some ⟨g, 0, none⟩)), (13, .int .i64 wv), (14, .int .i64 ((ii : Int))), (15, .int .i64 fd), (17, .int .i64 sd), (18, .map (some ma)), (60, .int .i64 ((lv2 : Int))), (61, .int .i64 ((li : Int))), (75, .int .i64 ((qq : Int))), (76, .int .i64 ((j : Int))), (173, .bool (decide (((evS begun dn2 false) : Int) = 3)))] ⟨rfl, rfl, rfl, rfl, rfl, rfl, rfl, rfl, rfl, rfl, rfl, rfl, rfl, rfl, trivial⟩ ?_
                                    by_cases hb100 : ((evS begun dn2 false) : Int) = 3
                                    · skip
                                      refine g_cond_t rfl (decide_eq_true hb100) ?_
                                      refine g_region ?_
                                      refine l_of (s_val (v := .int .i64 fd) (wt0 rfl) rfl rfl (x_move rfl rfl) ?_)
                                      refine l_of (s_val (v := .int .i64 (fd + 1)) (wt0 rfl) rfl rfl (x_bin rfl rfl rfl (b_add (w64 (by omega)))) ?_)
                                      refine l_of (s_val (v := .int .i64 (fd + 1)) (wt0 rfl) rfl rfl (x_assign rfl rfl) ?_)
                                      refine g_nil ?_
                                      refine g_in ?_
                                      refine g_then ?_
                                      refine g_region ?_
                                      refine l_of (s_val (v := .int .i64 ((ii : Int))) (wt0 rfl) rfl rfl (x_move rfl rfl) ?_)
                                      refine l_of (s_val (v := .int .i64 (((ii + 1 : Nat) : Int))) (wt0 rfl) rfl rfl (x_bin rfl rfl rfl (b_add (by rw [w64 (by omega)]; omega))) ?_)
                                      refine l_of (s_val (v := .int .i64 (((ii + 1 : Nat) : Int))) (wt0 rfl) rfl rfl (x_assign rfl rfl) ?_)
                                      refine g_nil ?_
                                      refine g_in ?_
                                      refine g_then ?_
                                      refine g_region ?_
                                      refine l_of (s_val (v := .int .i64 (((j + 1 : Nat) : Int))) (wt0 rfl) rfl rfl (x_bin rfl rfl rfl (b_add (by rw [w64 (by omega)]; omega))) ?_)
                                      refine l_of (s_val (v := .int .i64 (((j + 1 : Nat) : Int))) (wt0 rfl) rfl rfl (x_move rfl rfl) ?_)
                                      refine g_nil ?_
                                      refine g_then ?_
                                      refine g_round (i := (j, ii, rows, tk, tn, til, now, begun, whole, dn, sd, fd, MA)) ((j + 1), (ii + 1), (rows.map (frontR x52)), (upd tk x52 ⟨(tk x52).name, 0, 0, true, false⟩), wv, (wv + 1000), wv, (begun || decide ((evS begun dn2 false) = 1)), whole2, (dn2 && !decide ((evS begun dn2 false) = 3)), sd, (fd + 1), (upM MA (tk x52).name true)) ?_ ?_ ?_
                                      · exact ⟨rfl, rfl, rfl, rfl, rfl, rfl, rfl, rfl, rfl, rfl, rfl, rfl, rfl, trivial⟩
                                      · exact ⟨by omega, (by omega), (by rw [List.length_map]; exact hnrz), (hE2.answer (iv := 1000) hxa (by omega) (by omega) (by omega) rfl (by omega)), (H99.takes [0, 1, 2, 3, 6, 7] (by decide))⟩
                                      · (try dsimp only); omega
                                    · skip
                                      refine g_cond_f rfl (decide_eq_false hb100) ?_
                                      refine g_skip ?_
                                      refine g_in ?_
                                      refine g_then ?_
                                      refine g_region ?_
                                      refine l_of (s_val (v := .int .i64 ((ii : Int))) (wt0 rfl) rfl rfl (x_move rfl rfl) ?_)
                                      refine l_of (s_val (v := .int .i64 (((ii + 1 : Nat) : Int))) (wt0 rfl) rfl rfl (x_bin rfl rfl rfl (b_add (by rw [w64 (by omega)]; omega))) ?_)
                                      refine l_of (s_val (v := .int .i64 (((ii + 1 : Nat) : Int))) (wt0 rfl) rfl rfl (x_assign rfl rfl) ?_)
                                      refine g_nil ?_
                                      refine g_in ?_
                                      refine g_then ?_
                                      refine g_region ?_
                                      refine l_of (s_val (v := .int .i64 (((j + 1 : Nat) : Int))) (wt0 rfl) rfl rfl (x_bin rfl rfl rfl (b_add (by rw [w64 (by omega)]; omega))) ?_)
                                      refine l_of (s_val (v := .int .i64 (((j + 1 : Nat) : Int))) (wt0 rfl) rfl rfl (x_move rfl rfl) ?_)
                                      refine g_nil ?_
                                      refine g_then ?_
                                      refine g_round (i := (j, ii, rows, tk, tn, til, now, begun, whole, dn, sd, fd, MA)) ((j + 1), (ii + 1), (rows.map (frontR x52)), (upd tk x52 ⟨(tk x52).name, 0, 0, true, false⟩), wv, (wv + 1000), wv, (begun || decide ((evS begun dn2 false) = 1)), whole2, (dn2 && !decide ((evS begun dn2 false) = 3)), sd, fd, (upM MA (tk x52).name true)) ?_ ?_ ?_
                                      · exact ⟨rfl, rfl, rfl, rfl, rfl, rfl, rfl, rfl, rfl, rfl, rfl, rfl, rfl, trivial⟩
                                      · exact ⟨by omega, (by omega), (by rw [List.length_map]; exact hnrz), (hE2.answer (iv := 1000) hxa (by omega) (by omega) (by omega) rfl (by omega)), (H99.takes [0, 1, 2, 3, 6, 7] (by decide))⟩
                                      · (try dsimp only); omega
                · skip
                  refine g_cond_f rfl (decide_eq_false hb35) ?_
                  refine g_exit ?_
                  refine g_then_exit ?_
                  refine g_then_exit ?_
                  refine g_in_hit ?_
                  refine g_then ?_
                  refine g_seq ?_
                  refine g_seq ?_
                  refine g_region ?_
                  refine l_of (s_val (v := .pointer (some ⟨g, 0, none⟩)) (wt0 rfl) rfl rfl (x_move rfl rfl) ?_)
                  refine l_of (s_call (wt0 rfl) (x_call' rfl rfl cl18) (stop_y _ (H34.takes [0] (by decide))) ?_)
                  rintro _ wq101 ⟨rfl, H102⟩
                  replace H102 : S wq101 [Ob g (.cells #[.pointer none, .int .i64 0, .slice P nr C, (.map (some mg)), .int .i64 tn, .int .i64 til, .bool begun, .bool whole, .bool dn, .bool true] 64 (0, 0)), Rw 68 1 P nr C (rosV rows), RowsI 59 1 ptL rows, Fam 71 Tk.cells (adr rows) tk, Mp Value.string Value.bool okT ma MA, Old w no] := H34.absorbI (new := [Ob g (.cells #[.pointer none, .int .i64 0, .slice P nr C, (.map (some mg)), .int .i64 tn, .int .i64 til, .bool begun, .bool whole, .bool dn, .bool true] 64 (0, 0))]) [0] H102
                  refine b_ret rfl rfl ?_
                  refine l_of (s_val (v := .bool (!decide ((0 : Int) = 0))) (wt0 rfl) rfl rfl (x_bin rfl rfl rfl b_neq) ?_)
                  refine g_nil ?_
                  refine g_then ?_
                  refine g_cond_f rfl (nf rfl) ?_
                  refine g_skip ?_
                  refine g_then ?_
                  refine g_seq ?_
                  refine g_region ?_
                  refine l_of (s_makeMap (α := Bool) Value.string Value.bool okT H102 (wt0 rfl) rfl rfl rfl ?_)
                  intro mt wq103 H104
                  replace H104 : S wq103 [Mp Value.string Value.bool okT mt (fun _ => none), Ob g (.cells #[.pointer none, .int .i64 0, .slice P nr C, (.map (some mg)), .int .i64 tn, .int .i64 til, .bool begun, .bool whole, .bool dn, .bool true] 64 (0, 0)), Rw 68 1 P nr C (rosV rows), RowsI 59 1 ptL rows, Fam 71 Tk.cells (adr rows) tk, Mp Value.string Value.bool okT ma MA, Old w no] := H104
                  refine l_of (s_val (v := .map (some mt)) (wt0 rfl) rfl rfl (x_assign rfl rfl) ?_)
                  refine g_nil ?_
                  refine g_then ?_
                  refine g_seq ?_
                  refine g_block ?_
                  have hjq : j = qq := by omega
                  have hS0 := hE.stop (by omega)
                  refine g_loop (ι := (Nat → Tk) × Int × (ByteArray → Option Bool)) (fun (tk, tn, MT) => [(2, .int .i64 ((lv2 : Int))), (3, .int .i64 dx), (4, .slice pe ne ce), (11, .pointer (some ⟨g, 0, none⟩)), (13, .int .i64 now), (14, .int .i64 ((ii : Int))), (15, .int .i64 fd), (18, .map (some ma)), (24, .map (some mt)), (60, .int .i64 ((lv2 : Int))), (61, .int .i64 ((li : Int)))]) (fun (tk, tn, MT) wx => (ES rows tk tn now MA MT) ∧ S wx [Ob g (.cells #[.pointer none, .int .i64 0, .slice P nr C, (.map (some mg)), .int .i64 tn, .int .i64 til, .bool begun, .bool whole, .bool dn, .bool true] 64 (0, 0)), Rw 68 1 P nr C (rosV rows), RowsI 59 1 ptL rows, Fam 71 Tk.cells (adr rows) tk, Mp Value.string Value.bool okT ma MA, Mp Value.string Value.bool okT mt MT, Old w no]) (fun (tk, tn, MT) => untold rows tk) (tk, tn, (fun _ => none)) ⟨rfl, rfl, rfl, rfl, rfl, rfl, rfl, rfl, rfl, rfl, rfl, trivial⟩ ⟨hS0, (H104.takes [1, 2, 3, 4, 5, 0, 6] (by decide))⟩ ?_
                  rintro ⟨tk, tn, MT⟩ wq105 ⟨hS, H106⟩
                  replace H106 : S wq105 [Ob g (.cells #[.pointer none, .int .i64 0, .slice P nr C, (.map (some mg)), .int .i64 tn, .int .i64 til, .bool begun, .bool whole, .bool dn, .bool true] 64 (0, 0)), Rw 68 1 P nr C (rosV rows), RowsI 59 1 ptL rows, Fam 71 Tk.cells (adr rows) tk, Mp Value.string Value.bool okT ma MA, Mp Value.string Value.bool okT mt MT, Old w no] := H106
                  refine g_weak [(2, .int .i64 ((lv2 : Int))), (3, .int .i64 dx), (4, .slice pe ne ce), (11, .pointer (some ⟨g, 0, none⟩)), (13, .int .i64 now), (14, .int .i64 ((ii : Int))), (15, .int .i64 fd), (18, .map (some ma)), (24, .map (some mt)), (60, .int .i64 ((lv2 : Int))), (61, .int .i64 ((li : Int)))] ⟨rfl, rfl, rfl, rfl, rfl, rfl, rfl, rfl, rfl, rfl, rfl, trivial⟩ ?_
                  have htn := hS.htn
                  refine g_block ?_
                  refine g_seq ?_
                  refine g_region ?_
                  refine l_of (s_val (v := .pointer (some ⟨g, 0, none⟩)) (wt0 rfl) rfl rfl (x_move rfl rfl) ?_)
                  refine l_of (s_val (v := .int .i64 now) (wt0 rfl) rfl rfl (x_move rfl rfl) ?_)
                  refine l_of (s_call (wt0 rfl) (x_call' rfl rfl cl11) (next_s hnrz hnr2 hrlz _ (H106.takes [0, 1, 2, 3] (by decide))) ?_)
                  rintro ee115 wq113 hor116
                  rcases hor116 with ⟨hl9, rfl, H114⟩ | ⟨hl0, hno9, rfl, H114⟩ | ⟨i107, k108, x109, post, pre, hsp110, hl0, hno111, hok112, rfl, H114⟩
                  · skip
                    exact absurd (tellS_ok (by omega) (by omega)) hl9
                  · skip
                    replace H114 : S wq113 [Ob g (.cells #[.pointer none, .int .i64 0, .slice P nr C, (.map (some mg)), .int .i64 tn, .int .i64 til, .bool begun, .bool whole, .bool dn, .bool true] 64 (0, 0)), Rw 68 1 P nr C (rosV rows), RowsI 59 1 ptL rows, Fam 71 Tk.cells (adr rows) tk, Mp Value.string Value.bool okT ma MA, Mp Value.string Value.bool okT mt MT, Old w no] := H106.absorbI (new := [Ob g (.cells #[.pointer none, .int .i64 0, .slice P nr C, (.map (some mg)), .int .i64 tn, .int .i64 til, .bool begun, .bool whole, .bool dn, .bool true] 64 (0, 0)), Rw 68 1 P nr C (rosV rows), RowsI 59 1 ptL rows, Fam 71 Tk.cells (adr rows) tk]) [0, 1, 2, 3] H114
                    refine b_ret rfl rfl ?_
                    refine l_of (s_val (v := .tuple #[.agg #[.int .i64 0, .int .i64 0, .int .i64 0, .int .i64 0], .int .i64 8]) (wt0 rfl) rfl rfl (x_move rfl rfl) ?_)
                    refine l_of (s_val (v := .agg #[.int .i64 0, .int .i64 0, .int .i64 0, .int .i64 0]) (wt0 rfl) rfl rfl (x_extract rfl rfl rfl) ?_)
                    refine l_of (s_val (v := .int .i64 8) (wt0 rfl) rfl rfl (x_extract rfl rfl rfl) ?_)
                    refine l_of (s_alloc H114 (wt0 rfl) rfl rfl rfl ze34 ?_)
                    intro g117 wq118 H119
                    refine l_of (s_store H119 0 (wt0 rfl) rfl rfl rfl rfl rfl sz34 rfl rfl (cs' := #[.int .i64 0, .int .i64 0, .int .i64 0, .int .i64 0]) rfl ?_)
                    intro wq120 H121
                    refine l_of (s_val (v := .int .i64 8) (wt0 rfl) rfl rfl (x_assign rfl rfl) ?_)
                    refine g_nil ?_
                    refine g_then ?_
                    refine g_seq ?_
                    refine g_seq ?_
                    refine g_region ?_
                    refine l_of (s_val (v := .int .i64 8) (wt0 rfl) rfl rfl (x_move rfl rfl) ?_)
                    refine l_of (s_val (v := .bool (decide ((8 : Int) = 8))) (wt0 rfl) rfl rfl (x_bin rfl rfl rfl b_eql) ?_)
                    refine g_nil ?_
                    refine g_then ?_
                    refine g_cond_t rfl (decide_eq_true rfl) ?_
                    refine g_exit ?_
                    refine g_then_exit ?_
                    refine g_in_miss rfl ?_
                    refine g_then_exit ?_
                    refine g_in_hit ?_
                    refine g_then ?_
                    refine g_seq ?_
                    refine g_region ?_
                    refine l_of (s_val (v := .map (some mt)) (wt0 rfl) rfl rfl (x_move rfl rfl) ?_)
                    refine l_of (s_lenMap H121 6 (wt0 rfl) rfl rfl rfl rfl rfl Try.underlying45 ?_)
                    intro nT hnT
                    refine l_of (s_val (v := .map (some ma)) (wt0 rfl) rfl rfl (x_move rfl rfl) ?_)
                    refine l_of (s_lenMap H121 5 (wt0 rfl) rfl rfl rfl rfl rfl Try.underlying45 ?_)
                    intro nA hnA
                    refine l_of (s_val (v := .bool (!decide (((nT : Int) : Int) = (nA : Int)))) (wt0 rfl) rfl rfl (x_bin rfl rfl rfl b_neq) ?_)
                    refine g_nil ?_
                    refine g_then ?_
                    refine g_weak [(2, .int .i64 ((lv2 : Int))), (3, .int .i64 dx), (4, .slice pe ne ce), (11, .pointer (some ⟨g, 0, none⟩)), (13, .int .i64 now), (14, .int .i64 ((ii : Int))), (15, .int .i64 fd), (60, .int .i64 ((lv2 : Int))), (61, .int .i64 ((li : Int))), (249, .bool (!decide (((nT : Int) : Int) = (nA : Int))))] ⟨rfl, rfl, rfl, rfl, rfl, rfl, rfl, rfl, rfl, rfl, trivial⟩ ?_
                    refine g_cond_f rfl (nf (by rw [hS.same hno9 hnT hnA])) ?_
                    refine g_skip ?_
                    refine g_in ?_
                    refine g_then ?_
                    refine g_region ?_
                    refine l_of (s_val (v := .int .i64 (((li + 1 : Nat) : Int))) (wt0 rfl) rfl rfl (x_bin rfl rfl rfl (b_add (by rw [w64 (by omega)]; omega))) ?_)
                    refine l_of (s_val (v := .int .i64 (((li + 1 : Nat) : Int))) (wt0 rfl) rfl rfl (x_move rfl rfl) ?_)
                    refine g_nil ?_
                    refine g_then ?_
                    refine g_round (i := (li, ii, rows, tk, tn, til, now, begun, whole, dn, st, fd)) ((li + 1), ii, rows, tk, tn, til, now, begun, whole, dn, true, fd) ?_ ?_ ?_
                    · exact ⟨rfl, rfl, rfl, rfl, rfl, rfl, rfl, rfl, rfl, trivial⟩
                    · exact ⟨by omega, (by rw [Nat.succ_mul]; omega), hnrz, hS.sane, hS.htn, hE.wh, ⟨hE.fin.1, hE.fin.2.1, fun h9 => (hE.fin.2.2.1 h9).1⟩, (fun h9 => absurd h9 (by omega)), (fun _ => rfl), (H121.takes [1, 2, 3, 4, 7] (by decide))⟩
                    · (try dsimp only); omega
                  · skip
                    replace H114 : S wq113 [Ob g (.cells #[.pointer (some ⟨x109, 0, none⟩), .int .i64 ((evS begun dn true)), .slice P nr C, (.map (some mg)), .int .i64 now, .int .i64 til, .bool begun, .bool whole, .bool dn, .bool true] 64 (0, 0)), Rw 68 1 P nr C (rosV rows), RowsI 59 1 ptL rows, Fam 71 Tk.cells (adr rows) tk, Mp Value.string Value.bool okT ma MA, Mp Value.string Value.bool okT mt MT, Old w no] := H106.absorbI (new := [Ob g (.cells #[.pointer (some ⟨x109, 0, none⟩), .int .i64 ((evS begun dn true)), .slice P nr C, (.map (some mg)), .int .i64 now, .int .i64 til, .bool begun, .bool whole, .bool dn, .bool true] 64 (0, 0)), Rw 68 1 P nr C (rosV rows), RowsI 59 1 ptL rows, Fam 71 Tk.cells (adr rows) tk]) [0, 1, 2, 3] H114
                    obtain ⟨r, hrow, hkx, hxa⟩ := place_at hsp110
                    have hrz := (hS.sane.lens r (List.mem_of_getElem? hrow))
                    have hkl := (List.getElem?_eq_some_iff.1 hkx).1
                    have hil := (List.getElem?_eq_some_iff.1 hrow).1
                    have hokT : okT (tk x109).name := Nat.le_trans (hS.sane.size hxa) (by decide)
                    have htk := hS.trk x109 hxa
                    obtain ⟨hT1, hT2, hT3, hT4, hT5⟩ := hS.tell hxa hok112
                    refine b_ret rfl rfl ?_
                    refine l_of (s_val (v := .tuple #[.agg #[.int .i64 ((i107 : Int)), .int .i64 ((k108 : Int)), .int .i64 now, .int .i64 ((evS begun dn true))], .int .i64 0]) (wt0 rfl) rfl rfl (x_move rfl rfl) ?_)
                    refine l_of (s_val (v := .agg #[.int .i64 ((i107 : Int)), .int .i64 ((k108 : Int)), .int .i64 now, .int .i64 ((evS begun dn true))]) (wt0 rfl) rfl rfl (x_extract rfl rfl rfl) ?_)
                    refine l_of (s_val (v := .int .i64 0) (wt0 rfl) rfl rfl (x_extract rfl rfl rfl) ?_)
                    refine l_of (s_alloc H114 (wt0 rfl) rfl rfl rfl ze34 ?_)
                    intro g122 wq123 H124
                    refine l_of (s_store H124 0 (wt0 rfl) rfl rfl rfl rfl rfl sz34 rfl rfl (cs' := #[.int .i64 ((i107 : Int)), .int .i64 ((k108 : Int)), .int .i64 now, .int .i64 ((evS begun dn true))]) rfl ?_)
                    intro wq125 H126
                    refine l_of (s_val (v := .int .i64 0) (wt0 rfl) rfl rfl (x_assign rfl rfl) ?_)
                    refine g_nil ?_
                    refine g_then ?_
                    refine g_seq ?_
                    refine g_seq ?_
                    refine g_region ?_
                    refine l_of (s_val (v := .int .i64 0) (wt0 rfl) rfl rfl (x_move rfl rfl) ?_)
                    refine l_of (s_val (v := .bool (decide ((0 : Int) = 8))) (wt0 rfl) rfl rfl (x_bin rfl rfl rfl b_eql) ?_)
                    refine g_nil ?_
                    refine g_then ?_
                    refine g_cond_f rfl (by decide) ?_
                    refine g_skip ?_
                    refine g_then ?_
                    refine g_seq ?_
                    refine g_region ?_
                    refine l_of (s_val (v := .pointer (some ⟨g, 0, none⟩)) (wt0 rfl) rfl rfl (x_move rfl rfl) ?_)
                    refine l_of (s_val (v := .pointer (some ⟨g122, 0, none⟩)) (wt0 rfl) rfl rfl (x_fieldAddr rfl rfl fo34_0 rfl) ?_)
                    refine l_of (s_val (v := .int .i64 ((i107 : Int))) (wt0 rfl) rfl rfl (x_load1 H126 0 rfl rfl Try.underlying3 rfl rfl rfl) ?_)
                    refine l_of (s_call (wt0 rfl) (x_call' rfl rfl cl12) (order_s hnrz hnr2 hrlz _ (H126.takes [1, 2, 3, 4] (by decide))) ?_)
                    rintro ee134 wq132 hor135
                    rcases hor135 with ⟨hq9, rfl, H133⟩ | ⟨j127, rr131, p129, c130, hq9, hrw128, rfl, H133⟩
                    · skip
                      omega
                    · skip
                      have hj9 : j127 = i107 := by omega
                      rw [hj9, hrow] at hrw128
                      obtain rfl := Option.some.inj hrw128
                      replace H133 : S wq132 [Rw 9 1 p129 r.l.length c130 (stV (namesT tk r.l)), Ob g (.cells #[.pointer (some ⟨x109, 0, none⟩), .int .i64 ((evS begun dn true)), .slice P nr C, (.map (some mg)), .int .i64 now, .int .i64 til, .bool begun, .bool whole, .bool dn, .bool true] 64 (0, 0)), Rw 68 1 P nr C (rosV rows), RowsI 59 1 ptL rows, Fam 71 Tk.cells (adr rows) tk, Ob g122 (.cells #[.int .i64 ((i107 : Int)), .int .i64 ((k108 : Int)), .int .i64 now, .int .i64 ((evS begun dn true))] 34 (0, 0)), Mp Value.string Value.bool okT ma MA, Mp Value.string Value.bool okT mt MT, Old w no] := H126.absorbI (new := [Rw 9 1 p129 r.l.length c130 (stV (namesT tk r.l)), Ob g (.cells #[.pointer (some ⟨x109, 0, none⟩), .int .i64 ((evS begun dn true)), .slice P nr C, (.map (some mg)), .int .i64 now, .int .i64 til, .bool begun, .bool whole, .bool dn, .bool true] 64 (0, 0)), Rw 68 1 P nr C (rosV rows), RowsI 59 1 ptL rows, Fam 71 Tk.cells (adr rows) tk]) [1, 2, 3, 4] H133
                      refine b_ret rfl rfl ?_
                      refine l_of (s_val (v := .tuple #[.slice p129 r.l.length c130, .int .i64 0]) (wt0 rfl) rfl rfl (x_move rfl rfl) ?_)
                      refine l_of (s_val (v := .slice p129 r.l.length c130) (wt0 rfl) rfl rfl (x_extract rfl rfl rfl) ?_)
                      refine l_of (s_val (v := .int .i64 0) (wt0 rfl) rfl rfl (x_extract rfl rfl rfl) ?_)
                      refine l_of (s_val (v := .slice p129 r.l.length c130) (wt0 rfl) rfl rfl (x_assign rfl rfl) ?_)
                      refine l_of (s_val (v := .int .i64 0) (wt0 rfl) rfl rfl (x_assign rfl rfl) ?_)
                      refine g_nil ?_
                      refine g_then ?_
                      refine g_weak [(2, .int .i64 ((lv2 : Int))), (3, .int .i64 dx), (4, .slice pe ne ce), (11, .pointer (some ⟨g, 0, none⟩)), (13, .int .i64 now), (14, .int .i64 ((ii : Int))), (15, .int .i64 fd), (18, .map (some ma)), (24, .map (some mt)), (25, .pointer (some ⟨g122, 0, none⟩)), (26, .int .i64 0), (27, .slice p129 r.l.length c130), (28, .int .i64 0), (60, .int .i64 ((lv2 : Int))), (61, .int .i64 ((li : Int)))] ⟨rfl, rfl, rfl, rfl, rfl, rfl, rfl, rfl, rfl, rfl, rfl, rfl, rfl, rfl, rfl, trivial⟩ ?_
                      refine g_seq ?_
                      refine g_seq ?_
                      refine g_region ?_
                      refine l_of (s_val (v := .int .i64 0) (wt0 rfl) rfl rfl (x_move rfl rfl) ?_)
                      refine l_of (s_val (v := .bool (!decide ((0 : Int) = 0))) (wt0 rfl) rfl rfl (x_bin rfl rfl rfl b_neq) ?_)
                      refine l_of (s_val (v := .bool (!decide ((0 : Int) = 0))) (wt0 rfl) rfl rfl (x_move rfl rfl) ?_)
                      refine l_of (s_val (v := .int .i64 0) (wt1 rfl rfl rfl rfl (nf rfl)) rfl rfl (x_move rfl rfl) ?_)
                      refine l_of (s_val (v := .bool (!decide ((0 : Int) = 0))) (wt1 rfl rfl rfl rfl (nf rfl)) rfl rfl (x_bin rfl rfl rfl b_neq) ?_)
                      refine l_of (s_val (v := .bool (!decide ((0 : Int) = 0))) (wt0 rfl) rfl rfl (x_pick_f rfl rfl (nf rfl) rfl) ?_)
                      refine l_of (s_val (v := .bool (!decide ((0 : Int) = 0))) (wt0 rfl) rfl rfl (x_move rfl rfl) ?_)
                      refine l_of (s_val (v := .pointer (some ⟨g122, 1, none⟩)) (wt1 rfl rfl rfl rfl (nf rfl)) rfl rfl (x_fieldAddr rfl rfl fo34_1 rfl) ?_)
                      refine l_of (s_val (v := .int .i64 ((k108 : Int))) (wt1 rfl rfl rfl rfl (nf rfl)) rfl rfl (x_load1 H133 5 rfl rfl Try.underlying3 rfl rfl rfl) ?_)
                      refine l_of (s_val (v := .slice p129 r.l.length c130) (wt1 rfl rfl rfl rfl (nf rfl)) rfl rfl (x_move rfl rfl) ?_)
                      refine l_of (s_val (v := .int .i64 ((r.l.length : Int))) (wt1 rfl rfl rfl rfl (nf rfl)) rfl rfl (x_lenl rfl rfl Try.underlying37) ?_)
                      refine l_of (s_val (v := .bool (decide (((r.l.length : Int) : Int) ≤ (k108 : Int)))) (wt1 rfl rfl rfl rfl (nf rfl)) rfl rfl (x_bin rfl rfl rfl b_geq) ?_)
                      refine l_of (s_val (v := .bool (decide (((r.l.length : Int) : Int) ≤ (k108 : Int)))) (wt0 rfl) rfl rfl (x_pick_f rfl rfl (nf rfl) rfl) ?_)
                      refine l_of (s_val (v := .bool (decide (((r.l.length : Int) : Int) ≤ (k108 : Int)))) (wt0 rfl) rfl rfl (x_move rfl rfl) ?_)
                      by_cases hb136 : ((r.l.length : Int) : Int) ≤ (k108 : Int)
                      · skip
                        refine l_of (s_not (wn1 rfl rfl rfl rfl (decide_eq_true hb136)) rfl rfl ?_)
                        refine l_of (s_not (wn1 rfl rfl rfl rfl (decide_eq_true hb136)) rfl rfl ?_)
                        refine l_of (s_not (wn1 rfl rfl rfl rfl (decide_eq_true hb136)) rfl rfl ?_)
                        refine l_of (s_val (v := .bool true) (wt0 rfl) rfl rfl (x_pick_t rfl rfl (decide_eq_true hb136) rfl) ?_)
                        refine l_of (s_val (v := .bool true) (wt0 rfl) rfl rfl (x_move rfl rfl) ?_)
                        refine l_of (s_not (wn1 rfl rfl rfl rfl rfl) rfl rfl ?_)
                        refine l_of (s_not (wn1 rfl rfl rfl rfl rfl) rfl rfl ?_)
                        refine l_of (s_not (wn1 rfl rfl rfl rfl rfl) rfl rfl ?_)
                        refine l_of (s_not (wn1 rfl rfl rfl rfl rfl) rfl rfl ?_)
                        refine l_of (s_not (wn1 rfl rfl rfl rfl rfl) rfl rfl ?_)
                        refine l_of (s_not (wn1 rfl rfl rfl rfl rfl) rfl rfl ?_)
                        refine l_of (s_not (wn1 rfl rfl rfl rfl rfl) rfl rfl ?_)
                        refine l_of (s_val (v := .bool true) (wt0 rfl) rfl rfl (x_pick_t rfl rfl rfl rfl) ?_)
                        refine l_of (s_val (v := .bool true) (wt0 rfl) rfl rfl (x_move rfl rfl) ?_)
                        refine l_of (s_not (wn1 rfl rfl rfl rfl rfl) rfl rfl ?_)
                        refine l_of (s_not (wn1 rfl rfl rfl rfl rfl) rfl rfl ?_)
                        refine l_of (s_not (wn1 rfl rfl rfl rfl rfl) rfl rfl ?_)
                        refine l_of (s_not (wn1 rfl rfl rfl rfl rfl) rfl rfl ?_)
                        refine l_of (s_not (wn1 rfl rfl rfl rfl rfl) rfl rfl ?_)
                        refine l_of (s_not (wn1 rfl rfl rfl rfl rfl) rfl rfl ?_)
                        refine l_of (s_not (wn1 rfl rfl rfl rfl rfl) rfl rfl ?_)
                        refine l_of (s_not (wn1 rfl rfl rfl rfl rfl) rfl rfl ?_)
                        refine l_of (s_val (v := .bool true) (wt0 rfl) rfl rfl (x_pick_t rfl rfl rfl rfl) ?_)
                        refine g_nil ?_
                        refine g_then ?_
                        refine g_weak [(2, .int .i64 ((lv2 : Int))), (3, .int .i64 dx), (4, .slice pe ne ce), (11, .pointer (some ⟨g, 0, none⟩)), (13, .int .i64 now), (14, .int .i64 ((ii : Int))), (15, .int .i64 fd), (18, .map (some ma)), (24, .map (some mt)), (25, .pointer (some ⟨g122, 0, none⟩)), (27, .slice p129 r.l.length c130), (60, .int .i64 ((lv2 : Int))), (61, .int .i64 ((li : Int))), (235, .bool true)] ⟨rfl, rfl, rfl, rfl, rfl, rfl, rfl, rfl, rfl, rfl, rfl, rfl, rfl, rfl, trivial⟩ ?_
                        refine g_cond_t rfl rfl ?_
                        refine g_seq ?_
                        refine g_region ?_
                        refine l_of (s_val (v := .bool false) (wt0 rfl) rfl rfl (x_assign rfl rfl) ?_)
                        refine g_nil ?_
                        refine g_then ?_
                        refine g_weak [(10, .bool false)] ⟨rfl, trivial⟩ ?_
                        refine g_ret ?_
                        refine g_then_ret ?_
                        refine g_in_ret ?_
                        refine g_then_ret ?_
                        refine g_in_ret ?_
                        refine g_then_ret ?_
                        refine g_in_ret ?_
                        refine g_then_ret ?_
                        refine g_then_ret ?_
                        refine g_in_ret ?_
                        refine g_then_ret ?_
                        refine fin_ret [.tmp 10] [.bool false] rfl ⟨rfl, trivial⟩ ?_
                        exfalso; omega
                      · skip
                        refine l_of (s_val (v := .pointer (some ⟨g122, 3, none⟩)) (wt1 rfl rfl rfl rfl (decide_eq_false hb136)) rfl rfl (x_fieldAddr rfl rfl fo34_3 rfl) ?_)
                        refine l_of (s_val (v := .int .i64 ((evS begun dn true))) (wt1 rfl rfl rfl rfl (decide_eq_false hb136)) rfl rfl (x_load1 H133 5 rfl rfl Try.underlying3 rfl rfl rfl) ?_)
                        refine l_of (s_val (v := .bool (!decide (((evS begun dn true) : Int) = 2))) (wt1 rfl rfl rfl rfl (decide_eq_false hb136)) rfl rfl (x_bin rfl rfl rfl b_neq) ?_)
                        refine l_of (s_val (v := .bool (!decide (((evS begun dn true) : Int) = 2))) (wt0 rfl) rfl rfl (x_pick_f rfl rfl (decide_eq_false hb136) rfl) ?_)
                        refine l_of (s_val (v := .bool (!decide (((evS begun dn true) : Int) = 2))) (wt0 rfl) rfl rfl (x_move rfl rfl) ?_)
                        refine l_of (s_val (v := .map (some mt)) (wt1 rfl rfl rfl rfl (nf rfl)) rfl rfl (x_move rfl rfl) ?_)
                        refine l_of (s_val (v := .slice p129 r.l.length c130) (wt1 rfl rfl rfl rfl (nf rfl)) rfl rfl (x_move rfl rfl) ?_)
                        refine l_of (s_val (v := .pointer (some ⟨g122, 1, none⟩)) (wt1 rfl rfl rfl rfl (nf rfl)) rfl rfl (x_fieldAddr rfl rfl fo34_1 rfl) ?_)
                        refine l_of (s_val (v := .int .i64 ((k108 : Int))) (wt1 rfl rfl rfl rfl (nf rfl)) rfl rfl (x_load1 H133 5 rfl rfl Try.underlying3 rfl rfl rfl) ?_)
                        refine l_of (s_val (v := .pointer ((p129).map fun q => q.add (k108 * 1))) (wt1 rfl rfl rfl rfl (nf rfl)) rfl rfl (x_idxR k108 (H133.rwReads (k := 0) rfl) rfl rfl rfl Try.underlying37 sz9 (by omega)) ?_)
                        refine l_of (s_val (v := .string ((tk x109).name)) (wt1 rfl rfl rfl rfl (nf rfl)) rfl rfl (x_loadR1 k108 (H133.rwReads (k := 0) rfl) (by omega) rfl rfl Try.underlying9 rfl (stV_at (names_at hkx))) ?_)
                        refine l_of (s_val (v := .bool false) (wt1 rfl rfl rfl rfl (nf rfl)) rfl rfl (ex_cast (x_lookup1 (x := (tk x109).name) (strTy Try.underlying45 Try.underlying9) H133 7 rfl rfl rfl rfl hokT ze4) ((look_B _).trans (by rw [hT1]))) ?_)
                        refine l_of (s_val (v := .bool false) (wt0 rfl) rfl rfl (x_pick_f rfl rfl (nf rfl) rfl) ?_)
                        refine l_of (s_val (v := .bool false) (wt0 rfl) rfl rfl (x_move rfl rfl) ?_)
                        refine l_of (s_val (v := .map (some ma)) (wt1 rfl rfl rfl rfl rfl) rfl rfl (x_move rfl rfl) ?_)
                        refine l_of (s_val (v := .slice p129 r.l.length c130) (wt1 rfl rfl rfl rfl rfl) rfl rfl (x_move rfl rfl) ?_)
                        refine l_of (s_val (v := .pointer (some ⟨g122, 1, none⟩)) (wt1 rfl rfl rfl rfl rfl) rfl rfl (x_fieldAddr rfl rfl fo34_1 rfl) ?_)
                        refine l_of (s_val (v := .int .i64 ((k108 : Int))) (wt1 rfl rfl rfl rfl rfl) rfl rfl (x_load1 H133 5 rfl rfl Try.underlying3 rfl rfl rfl) ?_)
                        refine l_of (s_val (v := .pointer ((p129).map fun q => q.add (k108 * 1))) (wt1 rfl rfl rfl rfl rfl) rfl rfl (x_idxR k108 (H133.rwReads (k := 0) rfl) rfl rfl rfl Try.underlying37 sz9 (by omega)) ?_)
                        refine l_of (s_val (v := .string ((tk x109).name)) (wt1 rfl rfl rfl rfl rfl) rfl rfl (x_loadR1 k108 (H133.rwReads (k := 0) rfl) (by omega) rfl rfl Try.underlying9 rfl (stV_at (names_at hkx))) ?_)
                        refine l_of (s_val (v := .bool true) (wt1 rfl rfl rfl rfl rfl) rfl rfl (ex_cast (x_lookup1 (x := (tk x109).name) (strTy Try.underlying45 Try.underlying9) H133 6 rfl rfl rfl rfl hokT ze4) ((look_B _).trans (by rw [hT2]))) ?_)
                        refine l_of (s_val (v := .bool false) (wt1 rfl rfl rfl rfl rfl) rfl rfl (x_not (b := true) rfl rfl) ?_)
                        refine l_of (s_val (v := .bool false) (wt0 rfl) rfl rfl (x_pick_f rfl rfl rfl rfl) ?_)
                        refine g_nil ?_
                        refine g_then ?_
                        refine g_weak [(2, .int .i64 ((lv2 : Int))), (3, .int .i64 dx), (4, .slice pe ne ce), (11, .pointer (some ⟨g, 0, none⟩)), (13, .int .i64 now), (14, .int .i64 ((ii : Int))), (15, .int .i64 fd), (18, .map (some ma)), (24, .map (some mt)), (25, .pointer (some ⟨g122, 0, none⟩)), (27, .slice p129 r.l.length c130), (60, .int .i64 ((lv2 : Int))), (61, .int .i64 ((li : Int))), (235, .bool false)] ⟨rfl, rfl, rfl, rfl, rfl, rfl, rfl, rfl, rfl, rfl, rfl, rfl, rfl, rfl, trivial⟩ ?_
                        refine g_cond_f rfl rfl ?_
                        refine g_skip ?_
                        refine g_then ?_
                        refine g_seq ?_
                        refine g_region ?_
                        refine l_of (s_val (v := .map (some mt)) (wt0 rfl) rfl rfl (x_move rfl rfl) ?_)
                        refine l_of (s_val (v := .slice p129 r.l.length c130) (wt0 rfl) rfl rfl (x_move rfl rfl) ?_)
                        refine l_of (s_val (v := .pointer (some ⟨g122, 1, none⟩)) (wt0 rfl) rfl rfl (x_fieldAddr rfl rfl fo34_1 rfl) ?_)
                        refine l_of (s_val (v := .int .i64 ((k108 : Int))) (wt0 rfl) rfl rfl (x_load1 H133 5 rfl rfl Try.underlying3 rfl rfl rfl) ?_)
                        refine l_of (s_val (v := .pointer ((p129).map fun q => q.add (k108 * 1))) (wt0 rfl) rfl rfl (x_idxR k108 (H133.rwReads (k := 0) rfl) rfl rfl rfl Try.underlying37 sz9 (by omega)) ?_)
                        refine l_of (s_val (v := .string ((tk x109).name)) (wt0 rfl) rfl rfl (x_loadR1 k108 (H133.rwReads (k := 0) rfl) (by omega) rfl rfl Try.underlying9 rfl (stV_at (names_at hkx))) ?_)
                        refine l_of (s_mapUpdate (x := (tk x109).name) (a := true) (strTy Try.underlying45 Try.underlying9) H133 7 (wt0 rfl) rfl rfl rfl rfl rfl rfl hokT ?_)
                        intro wq137 H138
                        replace H138 : S wq137 [Rw 9 1 p129 r.l.length c130 (stV (namesT tk r.l)), Ob g (.cells #[.pointer (some ⟨x109, 0, none⟩), .int .i64 ((evS begun dn true)), .slice P nr C, (.map (some mg)), .int .i64 now, .int .i64 til, .bool begun, .bool whole, .bool dn, .bool true] 64 (0, 0)), Rw 68 1 P nr C (rosV rows), RowsI 59 1 ptL rows, Fam 71 Tk.cells (adr rows) tk, Ob g122 (.cells #[.int .i64 ((i107 : Int)), .int .i64 ((k108 : Int)), .int .i64 now, .int .i64 ((evS begun dn true))] 34 (0, 0)), Mp Value.string Value.bool okT ma MA, Mp Value.string Value.bool okT mt (upM MT (tk x109).name true), Old w no] := H138
                        refine g_nil ?_
                        refine g_then ?_
                        refine g_region ?_
                        refine l_of (s_val (v := .pointer (some ⟨g, 0, none⟩)) (wt0 rfl) rfl rfl (x_move rfl rfl) ?_)
                        refine l_of (s_val (v := .int .i64 now) (wt0 rfl) rfl rfl (x_move rfl rfl) ?_)
                        refine l_of (s_call (wt0 rfl) (x_call' rfl rfl cl14) (fail_f hxa (by omega) (by omega) (by omega) _ (H138.takes [1, 4] (by decide))) ?_)
                        rintro ee141 wq139 hor142
                        rcases hor142 with ⟨hl9, rfl, H140⟩ | ⟨hl0, rfl, H140⟩
                        · skip
                          exact absurd (tellS_ok (by omega) (by omega)) hl9
                        · skip
                          replace H140 : S wq139 [Ob g (.cells #[.pointer none, .int .i64 0, .slice P nr C, (.map (some mg)), .int .i64 now, .int .i64 til, .bool begun, .bool whole, .bool dn, .bool true] 64 (0, 0)), Fam 71 Tk.cells (adr rows) (upd tk x109 (⟨(tk x109).name, (tk x109).failed + 1, now + waitS ((tk x109).failed + 1), (tk x109).ans, (tk x109).told || decide ((evS begun dn true) = 2)⟩ : Tk)), Rw 9 1 p129 r.l.length c130 (stV (namesT tk r.l)), Rw 68 1 P nr C (rosV rows), RowsI 59 1 ptL rows, Ob g122 (.cells #[.int .i64 ((i107 : Int)), .int .i64 ((k108 : Int)), .int .i64 now, .int .i64 ((evS begun dn true))] 34 (0, 0)), Mp Value.string Value.bool okT ma MA, Mp Value.string Value.bool okT mt (upM MT (tk x109).name true), Old w no] := H138.absorbI (new := [Ob g (.cells #[.pointer none, .int .i64 0, .slice P nr C, (.map (some mg)), .int .i64 now, .int .i64 til, .bool begun, .bool whole, .bool dn, .bool true] 64 (0, 0)), Fam 71 Tk.cells (adr rows) (upd tk x109 (⟨(tk x109).name, (tk x109).failed + 1, now + waitS ((tk x109).failed + 1), (tk x109).ans, (tk x109).told || decide ((evS begun dn true) = 2)⟩ : Tk))]) [1, 4] H140
                          refine b_ret rfl rfl ?_
                          refine g_nil ?_
                          refine g_in ?_
                          refine g_then ?_
                          refine g_round (i := (tk, tn, MT)) ((upd tk x109 (⟨(tk x109).name, (tk x109).failed + 1, now + waitS ((tk x109).failed + 1), (tk x109).ans, (tk x109).told || decide ((evS begun dn true) = 2)⟩ : Tk)), now, (upM MT (tk x109).name true)) ?_ ?_ ?_
                          · exact ⟨rfl, rfl, rfl, rfl, rfl, rfl, rfl, rfl, rfl, rfl, rfl, trivial⟩
                          · exact ⟨hT5, (H140.takes [0, 3, 4, 1, 6, 7, 8] (by decide))⟩
                          · exact hT4
              · skip
                refine g_cond_f rfl (decide_eq_false hb25) ?_
                refine g_exit ?_
                refine g_then_exit ?_
                refine g_then_exit ?_
                refine g_in_hit ?_
                refine g_then ?_
                refine g_seq ?_
                refine g_region ?_
                refine l_of (s_val (v := .int .i64 fd) (wt0 rfl) rfl rfl (x_move rfl rfl) ?_)
                refine l_of (s_val (v := .bool (decide ((fd : Int) ≤ 1))) (wt0 rfl) rfl rfl (x_bin rfl rfl rfl b_leq) ?_)
                refine l_of (s_val (v := .bool (decide ((fd : Int) ≤ 1))) (wt0 rfl) rfl rfl (x_move rfl rfl) ?_)
                refine l_of (s_call (wt1 rfl rfl rfl rfl (decide_eq_true (by omega))) (x_call' rfl rfl cl8) (awake_s _) ?_)
                rintro _ wq143 ⟨rfl, H144⟩
                replace H144 : S wq143 [Ob g (.cells #[.pointer none, .int .i64 0, .slice P nr C, (.map (some mg)), .int .i64 tn, .int .i64 til, .bool begun, .bool whole, .bool dn, .bool st] 64 (0, 0)), Rw 68 1 P nr C (rosV rows), RowsI 59 1 ptL rows, Fam 71 Tk.cells (adr rows) tk, Old w no] := H24.absorb (new := []) H144
                refine b_ret rfl rfl ?_
                refine l_of (s_val (v := .bool true) (wt0 rfl) rfl rfl (x_pick_t rfl rfl (decide_eq_true (by omega)) rfl) ?_)
                refine l_of (s_val (v := .bool true) (wt0 rfl) rfl rfl (x_assign rfl rfl) ?_)
                refine g_nil ?_
                refine g_then ?_
                refine g_weak [(10, .bool true)] ⟨rfl, trivial⟩ ?_
                refine g_ret ?_
                refine fin_ret [.tmp 10] [.bool true] rfl ⟨rfl, trivial⟩ ?_
                exact ⟨rfl, H144.mask [false, false, false, false, true]⟩
  · skip
    replace H2 : S wq1 [Old w no] := H0.absorb (new := []) H2
    refine b_ret rfl rfl ?_
    refine l_of (s_val (v := .bool true) (wt0 rfl) rfl rfl (x_not (b := false) rfl rfl) ?_)
    refine l_of (s_val (v := .bool true) (wt0 rfl) rfl rfl (x_move rfl rfl) ?_)
    refine l_of (s_not (wn1 rfl rfl rfl rfl rfl) rfl rfl ?_)
    refine l_of (s_not (wn1 rfl rfl rfl rfl rfl) rfl rfl ?_)
    refine l_of (s_val (v := .bool true) (wt0 rfl) rfl rfl (x_pick_t rfl rfl rfl rfl) ?_)
    refine l_of (s_val (v := .bool true) (wt0 rfl) rfl rfl (x_move rfl rfl) ?_)
    refine l_of (s_not (wn1 rfl rfl rfl rfl rfl) rfl rfl ?_)
    refine l_of (s_not (wn1 rfl rfl rfl rfl rfl) rfl rfl ?_)
    refine l_of (s_val (v := .bool true) (wt0 rfl) rfl rfl (x_pick_t rfl rfl rfl rfl) ?_)
    refine l_of (s_val (v := .bool true) (wt0 rfl) rfl rfl (x_move rfl rfl) ?_)
    refine l_of (s_not (wn1 rfl rfl rfl rfl rfl) rfl rfl ?_)
    refine l_of (s_not (wn1 rfl rfl rfl rfl rfl) rfl rfl ?_)
    refine l_of (s_not (wn1 rfl rfl rfl rfl rfl) rfl rfl ?_)
    refine l_of (s_val (v := .bool true) (wt0 rfl) rfl rfl (x_pick_t rfl rfl rfl rfl) ?_)
    refine l_of (s_val (v := .bool true) (wt0 rfl) rfl rfl (x_move rfl rfl) ?_)
    refine l_of (s_not (wn1 rfl rfl rfl rfl rfl) rfl rfl ?_)
    refine l_of (s_not (wn1 rfl rfl rfl rfl rfl) rfl rfl ?_)
    refine l_of (s_not (wn1 rfl rfl rfl rfl rfl) rfl rfl ?_)
    refine l_of (s_val (v := .bool true) (wt0 rfl) rfl rfl (x_pick_t rfl rfl rfl rfl) ?_)
    refine g_nil ?_
    refine g_then ?_
    refine g_weak [(0, .string seed), (1, .slice p n c), (2, .int .i64 lv), (3, .int .i64 dx), (4, .slice pe ne ce), (49, .bool true)] ⟨rfl, rfl, rfl, rfl, rfl, rfl, trivial⟩ ?_
    refine g_cond_t rfl rfl ?_
    refine g_seq ?_
    refine g_region ?_
    refine l_of (s_call (wt0 rfl) (x_call' rfl rfl cl8) (awake_s _) ?_)
    rintro _ wq145 ⟨rfl, H146⟩
    replace H146 : S wq145 [Old w no] := H2.absorb (new := []) H146
    refine b_ret rfl rfl ?_
    refine l_of (s_val (v := .bool true) (wt0 rfl) rfl rfl (x_assign rfl rfl) ?_)
    refine g_nil ?_
    refine g_then ?_
    refine g_ret ?_
    refine g_then_ret ?_
    refine fin_ret [.tmp 10] [.bool true] rfl ⟨rfl, trivial⟩ ?_
    exact ⟨rfl, H146.mask [true]⟩
end Go.Proofs.Ytibdlnjnomikjaa
