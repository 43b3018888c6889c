import Derived.Test.YtibdlnjnomikjaaTB
set_option linter.unusedSimpArgs false
set_option linter.unusedVariables false
namespace Go.Proofs.Ytibdlnjnomikjaa
open Go.RowKit

theorem cl10 : callable Try.prog 10 = true := by kernel_rfl
theorem cl11 : callable Try.prog 11 = true := by kernel_rfl
theorem cl12 : callable Try.prog 12 = true := by kernel_rfl
theorem cl13 : callable Try.prog 13 = true := by kernel_rfl
theorem cl14 : callable Try.prog 14 = true := by kernel_rfl
theorem cl15 : callable Try.prog 15 = true := by kernel_rfl
theorem cl22 : callable Try.prog 22 = true := by kernel_rfl
theorem cl23 : callable Try.prog 23 = true := by kernel_rfl
theorem cl7 : callable Try.prog 7 = true := by kernel_rfl
theorem cl8 : callable Try.prog 8 = true := by kernel_rfl
theorem cl9 : callable Try.prog 9 = true := by kernel_rfl
theorem fo34_0 : foO Try.prog 34 0 = some 0 := by kernel_rfl
theorem fo34_1 : foO Try.prog 34 1 = some 1 := by kernel_rfl
set_option maxRecDepth 20000 in
set_option maxHeartbeats 4000000 in
set_option maxRecDepth 20000 in
set_option maxHeartbeats 4000000 in
theorem orders_law (seed : ByteArray) (ls : List (Ro ByteArray)) (p : Option Addr) (n c : Nat) (hn : n = ls.length) (hn2 : n ≤ 9223372036854775807) (hln : ∀ r ∈ ls, r.l.length ≤ 9223372036854775807) (es : List Int) (pe : Option Addr) (ne ce : Nat) (hne : ne = es.length) (hne2 : ne ≤ 9223372036854775807) (w : World) (hr : Reads w p n c 1 (rosV ls)) (hrs : ∀ r ∈ ls, Reads w r.p r.l.length r.c 1 (stV r.l)) (he : Reads w pe ne ce 1 (intsV es)) : Calls Try.prog 6 #[.string seed, .slice p n c, .slice pe ne ce] w fun e w' => e = .returned (.bool true) ∧ S w' [Old w no] := by
  have H0 := S.old w
  refine enter 183 Try.func6 rfl rfl rfl ?_
  refine g_weak [(0, .string seed), (1, .slice p n c), (2, .slice pe ne ce)] ⟨rfl, rfl, rfl, trivial⟩ ?_
  refine g_seq ?_
  refine g_region ?_
  refine l_of (s_val (v := .bool false) (wt0 rfl) rfl rfl (x_assign rfl rfl) ?_)
  refine g_nil ?_
  refine g_then ?_
  refine g_seq ?_
  refine g_seq ?_
  refine g_region ?_
  refine l_of (s_val (v := .slice p n c) (wt0 rfl) rfl rfl (x_move rfl rfl) ?_)
  refine l_of (s_call (wt0 rfl) (x_call' rfl rfl cl7) (light_s ls p n c hn [] none 0 0 rfl hn2 (Nat.zero_le _) hln _ (H0.oldReads (k := 0) rfl hr) (fun r hr => H0.oldReads (k := 0) rfl (hrs r hr)) ⟨rfl, Nat.le_refl _, fun h => absurd h (Nat.lt_irrefl _)⟩) ?_)
  rintro ee3 wq1 hor4
  rcases hor4 with ⟨hL9, rfl, H2⟩ | ⟨rfl, H2⟩
  · skip
    replace H2 : S wq1 [Old w no] := H0.absorb (new := []) H2
    have hL1 := hL9.1
    refine b_ret rfl rfl ?_
    refine l_of (s_val (v := .bool false) (wt0 rfl) rfl rfl (x_not (b := true) rfl rfl) ?_)
    refine l_of (s_val (v := .bool false) (wt0 rfl) rfl rfl (x_move rfl rfl) ?_)
    refine l_of (s_val (v := .slice pe ne ce) (wt1 rfl rfl rfl rfl rfl) rfl rfl (x_move rfl rfl) ?_)
    refine l_of (s_val (v := .int .i64 ((ne : Int))) (wt1 rfl rfl rfl rfl rfl) rfl rfl (x_lenl rfl rfl Try.underlying23) ?_)
    refine l_of (s_val (v := .bool (decide ((40 : Int) < (ne : Int)))) (wt1 rfl rfl rfl rfl rfl) rfl rfl (x_bin rfl rfl rfl b_gtr) ?_)
    refine l_of (s_val (v := .bool (decide ((40 : Int) < (ne : Int)))) (wt0 rfl) rfl rfl (x_pick_f rfl rfl rfl rfl) ?_)
    refine l_of (s_val (v := .bool (decide ((40 : Int) < (ne : Int)))) (wt0 rfl) rfl rfl (x_move rfl rfl) ?_)
    by_cases hb5 : (40 : Int) < (ne : Int)
    · skip
      refine l_of (s_not (wn1 rfl rfl rfl rfl (decide_eq_true hb5)) rfl rfl ?_)
      refine l_of (s_not (wn1 rfl rfl rfl rfl (decide_eq_true hb5)) rfl rfl ?_)
      refine l_of (s_not (wn1 rfl rfl rfl rfl (decide_eq_true hb5)) rfl rfl ?_)
      refine l_of (s_val (v := .bool true) (wt0 rfl) rfl rfl (x_pick_t rfl rfl (decide_eq_true hb5) rfl) ?_)
      refine g_nil ?_
      refine g_then ?_
      refine g_weak [(0, .string seed), (1, .slice p n c), (2, .slice pe ne ce), (41, .bool true)] ⟨rfl, rfl, rfl, rfl, trivial⟩ ?_
      refine g_cond_t rfl rfl ?_
      refine g_seq ?_
      refine g_region ?_
      refine l_of (s_call (wt0 rfl) (x_call' rfl rfl cl8) (awake_s _) ?_)
      rintro _ wq6 ⟨rfl, H7⟩
      replace H7 : S wq6 [Old w no] := H2.absorb (new := []) H7
      refine b_ret rfl rfl ?_
      refine l_of (s_val (v := .bool true) (wt0 rfl) rfl rfl (x_assign rfl rfl) ?_)
      refine g_nil ?_
      refine g_then ?_
      refine g_ret ?_
      refine g_then_ret ?_
      refine fin_ret [.tmp 6] [.bool true] rfl ⟨rfl, trivial⟩ ?_
      exact ⟨rfl, H7.mask [true]⟩
    · skip
      refine l_of (s_val (v := .string seed) (wt1 rfl rfl rfl rfl (decide_eq_false hb5)) rfl rfl (x_move rfl rfl) ?_)
      refine l_of (s_val (v := .int .i64 ((seed.size : Int))) (wt1 rfl rfl rfl rfl (decide_eq_false hb5)) rfl rfl (x_lens rfl rfl Try.underlying9) ?_)
      refine l_of (s_val (v := .bool (decide ((100 : Int) < (seed.size : Int)))) (wt1 rfl rfl rfl rfl (decide_eq_false hb5)) rfl rfl (x_bin rfl rfl rfl b_gtr) ?_)
      refine l_of (s_val (v := .bool (decide ((100 : Int) < (seed.size : Int)))) (wt0 rfl) rfl rfl (x_pick_f rfl rfl (decide_eq_false hb5) rfl) ?_)
      refine g_nil ?_
      refine g_then ?_
      refine g_weak [(0, .string seed), (1, .slice p n c), (2, .slice pe ne ce), (41, .bool (decide ((100 : Int) < (seed.size : Int))))] ⟨rfl, rfl, rfl, rfl, trivial⟩ ?_
      by_cases hb8 : (100 : Int) < (seed.size : Int)
      · skip
        refine g_cond_t rfl (decide_eq_true hb8) ?_
        refine g_seq ?_
        refine g_region ?_
        refine l_of (s_call (wt0 rfl) (x_call' rfl rfl cl8) (awake_s _) ?_)
        rintro _ wq9 ⟨rfl, H10⟩
        replace H10 : S wq9 [Old w no] := H2.absorb (new := []) H10
        refine b_ret rfl rfl ?_
        refine l_of (s_val (v := .bool true) (wt0 rfl) rfl rfl (x_assign rfl rfl) ?_)
        refine g_nil ?_
        refine g_then ?_
        refine g_ret ?_
        refine g_then_ret ?_
        refine fin_ret [.tmp 6] [.bool true] rfl ⟨rfl, trivial⟩ ?_
        exact ⟨rfl, H10.mask [true]⟩
      · skip
        refine g_cond_f rfl (decide_eq_false hb8) ?_
        refine g_skip ?_
        refine g_then ?_
        refine g_seq ?_
        refine g_region ?_
        refine l_of (s_val (v := .string seed) (wt0 rfl) rfl rfl (x_move rfl rfl) ?_)
        refine l_of (s_val (v := .slice p n c) (wt0 rfl) rfl rfl (x_move rfl rfl) ?_)
        refine l_of (s_call (wt0 rfl) (x_call' rfl rfl cl9) (new_s _ (by omega) ls p n c hn (by omega) (fun r hr => ⟨by have := hL9.2.1 r hr; omega, fun s hs => by have := (hL9.2.1 r hr).2 s hs; omega⟩) true _ (H2.oldReads (k := 0) rfl hr) (fun r hr => H2.oldReads (k := 0) rfl (hrs r hr))) ?_)
        rintro ee13 wq11 hor14
        rcases hor14 with ⟨hbad, rfl, H12⟩ | ⟨g, mg, nr, C, P, rows, tk, M, hsd, hgood, hnew, hnr, rfl, H12⟩
        · skip
          replace H12 : S wq11 [Old w no] := H2.absorb (new := []) H12
          refine b_ret rfl rfl ?_
          refine l_of (s_val (v := .tuple #[.pointer none, .int .i64 1]) (wt0 rfl) rfl rfl (x_move rfl rfl) ?_)
          refine l_of (s_val (v := .pointer none) (wt0 rfl) rfl rfl (x_extract rfl rfl rfl) ?_)
          refine l_of (s_val (v := .int .i64 1) (wt0 rfl) rfl rfl (x_extract rfl rfl rfl) ?_)
          refine l_of (s_val (v := .pointer none) (wt0 rfl) rfl rfl (x_assign rfl rfl) ?_)
          refine l_of (s_val (v := .int .i64 1) (wt0 rfl) rfl rfl (x_assign rfl rfl) ?_)
          refine g_nil ?_
          refine g_then ?_
          refine g_seq ?_
          refine g_seq ?_
          refine g_region ?_
          refine l_of (s_val (v := .int .i64 1) (wt0 rfl) rfl rfl (x_move rfl rfl) ?_)
          refine l_of (s_val (v := .bool (!decide ((1 : Int) = 0))) (wt0 rfl) rfl rfl (x_bin rfl rfl rfl b_neq) ?_)
          refine g_nil ?_
          refine g_then ?_
          refine g_cond_t rfl (by decide) ?_
          refine g_seq ?_
          refine g_region ?_
          refine l_of (s_call (wt0 rfl) (x_call' rfl rfl cl8) (awake_s _) ?_)
          rintro _ wq15 ⟨rfl, H16⟩
          replace H16 : S wq15 [Old w no] := H12.absorb (new := []) H16
          refine b_ret rfl rfl ?_
          refine l_of (s_val (v := .bool true) (wt0 rfl) rfl rfl (x_assign rfl rfl) ?_)
          refine g_nil ?_
          refine g_then ?_
          refine g_weak [(6, .bool true)] ⟨rfl, trivial⟩ ?_
          refine g_ret ?_
          refine g_then_ret ?_
          refine fin_ret [.tmp 6] [.bool true] rfl ⟨rfl, trivial⟩ ?_
          exact ⟨rfl, H16.mask [true]⟩
        · skip
          replace H12 : S wq11 [Ob g (.cells #[.pointer none, .int .i64 0, .slice P nr C, (.map (some mg)), .int .i64 0, .int .i64 0, .bool false, .bool true, .bool false, .bool false] 64 (0, 0)), Rw 68 1 P nr C (rosV rows), RowsI 59 1 ptL rows, Fam 71 Tk.cells (adr rows) tk, Mp Value.string (fun x : Nat => Value.pointer (some ⟨x, 0, none⟩)) okT mg M, Old w no] := H2.absorb (new := [Ob g (.cells #[.pointer none, .int .i64 0, .slice P nr C, (.map (some mg)), .int .i64 0, .int .i64 0, .bool false, .bool true, .bool false, .bool false] 64 (0, 0)), Rw 68 1 P nr C (rosV rows), RowsI 59 1 ptL rows, Fam 71 Tk.cells (adr rows) tk, Mp Value.string (fun x : Nat => Value.pointer (some ⟨x, 0, none⟩)) okT mg M]) H12
          have hg1 := hgood.1
          have hg2 := hgood.2.1
          unfold tlsOf at hg1 hg2
          rw [List.length_map] at hg1 hg2
          have hsane := sane_new hnew hg1 hg2
          refine b_ret rfl rfl ?_
          refine l_of (s_val (v := .tuple #[.pointer (some ⟨g, 0, none⟩), .int .i64 0]) (wt0 rfl) rfl rfl (x_move rfl rfl) ?_)
          refine l_of (s_val (v := .pointer (some ⟨g, 0, none⟩)) (wt0 rfl) rfl rfl (x_extract rfl rfl rfl) ?_)
          refine l_of (s_val (v := .int .i64 0) (wt0 rfl) rfl rfl (x_extract rfl rfl rfl) ?_)
          refine l_of (s_val (v := .pointer (some ⟨g, 0, none⟩)) (wt0 rfl) rfl rfl (x_assign rfl rfl) ?_)
          refine l_of (s_val (v := .int .i64 0) (wt0 rfl) rfl rfl (x_assign rfl rfl) ?_)
          refine g_nil ?_
          refine g_then ?_
          refine g_seq ?_
          refine g_seq ?_
          refine g_region ?_
          refine l_of (s_val (v := .int .i64 0) (wt0 rfl) rfl rfl (x_move rfl rfl) ?_)
          refine l_of (s_val (v := .bool (!decide ((0 : Int) = 0))) (wt0 rfl) rfl rfl (x_bin rfl rfl rfl b_neq) ?_)
          refine g_nil ?_
          refine g_then ?_
          refine g_cond_f rfl (nf rfl) ?_
          refine g_skip ?_
          refine g_then ?_
          refine g_seq ?_
          refine g_region ?_
          refine l_of (s_makeMap (α := Int) Value.string (fun x : Int => Value.int .i64 x) okT H12 (wt0 rfl) rfl rfl rfl ?_)
          intro mu wq17 H18
          replace H18 : S wq17 [Mp Value.string (fun x : Int => Value.int .i64 x) okT mu (fun _ => none), Ob g (.cells #[.pointer none, .int .i64 0, .slice P nr C, (.map (some mg)), .int .i64 0, .int .i64 0, .bool false, .bool true, .bool false, .bool false] 64 (0, 0)), Rw 68 1 P nr C (rosV rows), RowsI 59 1 ptL rows, Fam 71 Tk.cells (adr rows) tk, Mp Value.string (fun x : Nat => Value.pointer (some ⟨x, 0, none⟩)) okT mg M, Old w no] := H18
          refine l_of (s_val (v := .map (some mu)) (wt0 rfl) rfl rfl (x_assign rfl rfl) ?_)
          refine g_nil ?_
          refine g_then ?_
          refine g_weak [(1, .slice p n c), (2, .slice pe ne ce), (7, .pointer (some ⟨g, 0, none⟩)), (9, .map (some mu))] ⟨rfl, rfl, rfl, rfl, trivial⟩ ?_
          refine g_seq ?_
          refine g_region ?_
          refine l_of (s_makeMap (α := Int) Value.string (fun x : Int => Value.int .i64 x) okT H18 (wt0 rfl) rfl rfl rfl ?_)
          intro mf wq19 H20
          replace H20 : S wq19 [Mp Value.string (fun x : Int => Value.int .i64 x) okT mf (fun _ => none), Mp Value.string (fun x : Int => Value.int .i64 x) okT mu (fun _ => none), Ob g (.cells #[.pointer none, .int .i64 0, .slice P nr C, (.map (some mg)), .int .i64 0, .int .i64 0, .bool false, .bool true, .bool false, .bool false] 64 (0, 0)), Rw 68 1 P nr C (rosV rows), RowsI 59 1 ptL rows, Fam 71 Tk.cells (adr rows) tk, Mp Value.string (fun x : Nat => Value.pointer (some ⟨x, 0, none⟩)) okT mg M, Old w no] := H20
          refine l_of (s_val (v := .map (some mf)) (wt0 rfl) rfl rfl (x_assign rfl rfl) ?_)
          refine g_nil ?_
          refine g_then ?_
          refine g_seq ?_
          refine g_region ?_
          refine l_of (s_val (v := .int .i64 0) (wt0 rfl) rfl rfl (x_assign rfl rfl) ?_)
          refine g_nil ?_
          refine g_then ?_
          refine g_seq ?_
          refine g_seq ?_
          refine g_region ?_
          refine l_of (s_val (v := .slice pe ne ce) (wt0 rfl) rfl rfl (x_move rfl rfl) ?_)
          refine l_of (s_val (v := .int .i64 ((ne : Int))) (wt0 rfl) rfl rfl (x_lenl rfl rfl Try.underlying23) ?_)
          refine l_of (s_val (v := .int .i64 0) (wt0 rfl) rfl rfl (x_move rfl rfl) ?_)
          refine g_nil ?_
          refine g_then ?_
          refine g_block ?_
          refine g_loop (ι := Nat × Rws × (Nat → Tk) × Int × Int × Int × Bool × (ByteArray → Option Int) × (ByteArray → Option Int)) (fun (z, rows, tk, tn, til, now, begun, MU, MF) => [(1, .slice p n c), (7, .pointer (some ⟨g, 0, none⟩)), (9, .map (some mu)), (10, .map (some mf)), (11, .int .i64 now), (54, .slice pe ne ce), (55, .int .i64 ((ne : Int))), (56, .int .i64 ((z : Int)))]) (fun (z, rows, tk, tn, til, now, begun, MU, MF) wx => (z ≤ ne) ∧ (nr = rows.length) ∧ (OI z ls rows tk tn til now MU MF) ∧ S wx [Ob g (.cells #[.pointer none, .int .i64 0, .slice P nr C, (.map (some mg)), .int .i64 tn, .int .i64 til, .bool begun, .bool true, .bool false, .bool false] 64 (0, 0)), Rw 68 1 P nr C (rosV rows), RowsI 59 1 ptL rows, Fam 71 Tk.cells (adr rows) tk, Mp Value.string (fun x : Int => Value.int .i64 x) okT mu MU, Mp Value.string (fun x : Int => Value.int .i64 x) okT mf MF, Old w no]) (fun (z, rows, tk, tn, til, now, begun, MU, MF) => ne - z) (0, rows, tk, 0, 0, 0, false, (fun _ => none), (fun _ => none)) ⟨rfl, rfl, rfl, rfl, rfl, rfl, rfl, rfl, trivial⟩ ⟨Nat.zero_le _, hnr, (oi_start hsane hnew), (H20.takes [2, 3, 4, 5, 1, 0, 7] (by decide))⟩ ?_
          rintro ⟨z, rows, tk, tn, til, now, begun, MU, MF⟩ wq21 ⟨hz, hnrz, hI, H22⟩
          replace H22 : S wq21 [Ob g (.cells #[.pointer none, .int .i64 0, .slice P nr C, (.map (some mg)), .int .i64 tn, .int .i64 til, .bool begun, .bool true, .bool false, .bool false] 64 (0, 0)), Rw 68 1 P nr C (rosV rows), RowsI 59 1 ptL rows, Fam 71 Tk.cells (adr rows) tk, Mp Value.string (fun x : Int => Value.int .i64 x) okT mu MU, Mp Value.string (fun x : Int => Value.int .i64 x) okT mf MF, Old w no] := H22
          refine g_weak [(1, .slice p n c), (7, .pointer (some ⟨g, 0, none⟩)), (9, .map (some mu)), (10, .map (some mf)), (11, .int .i64 now), (54, .slice pe ne ce), (55, .int .i64 ((ne : Int))), (56, .int .i64 ((z : Int)))] ⟨rfl, rfl, rfl, rfl, rfl, rfl, rfl, rfl, trivial⟩ ?_
          have hrlz : ∀ r ∈ rows, r.l.length ≤ 1000 := fun r hr => by have := (hI.sane.lens r hr).2; omega
          have hnr2 : nr ≤ 1000 := by have := hI.sane.rl; omega
          refine g_seq ?_
          refine g_region ?_
          refine l_of (s_val (v := .bool (decide (((z : Int) : Int) < (ne : Int)))) (wt0 rfl) rfl rfl (x_bin rfl rfl rfl b_lss) ?_)
          refine g_nil ?_
          refine g_then ?_
          refine g_seq ?_
          by_cases hb23 : ((z : Int) : Int) < (ne : Int)
          · skip
            obtain ⟨xe, hxe⟩ : ∃ xe, es[z]? = some xe := ⟨_, List.getElem?_eq_getElem (by omega)⟩
            refine g_cond_t rfl (decide_eq_true hb23) ?_
            refine g_skip ?_
            refine g_then ?_
            refine g_seq ?_
            refine g_block ?_
            refine g_seq ?_
            refine g_region ?_
            refine l_of (s_val (v := .pointer ((pe).map fun q => q.add (z * 1))) (wt0 rfl) rfl rfl (x_idxR z (H22.oldReads (k := 6) rfl he) rfl rfl rfl Try.underlying23 sz3 (by omega)) ?_)
            refine l_of (s_val (v := .int .i64 xe) (wt0 rfl) rfl rfl (x_loadR1 z (H22.oldReads (k := 6) rfl he) (by omega) rfl rfl Try.underlying3 rfl (ints_at hxe)) ?_)
            refine l_of (s_val (v := .int .i64 xe) (wt0 rfl) rfl rfl (x_assign rfl rfl) ?_)
            refine g_nil ?_
            refine g_then ?_
            refine g_seq ?_
            refine g_region ?_
            refine l_of (s_val (v := .pointer (some ⟨g, 0, none⟩)) (wt0 rfl) rfl rfl (x_move rfl rfl) ?_)
            refine l_of (s_val (v := .int .i64 now) (wt0 rfl) rfl rfl (x_move rfl rfl) ?_)
            have hev := ev_ne2 begun false
            have htn := hI.htn
            refine l_of (s_call (wt0 rfl) (x_call' rfl rfl cl10) (when_s hnrz hnr2 hrlz _ (H22.takes [0, 1, 2, 3] (by decide))) ?_)
            rintro ee26 wq24 hor27
            rcases hor27 with ⟨hl9, rfl, H25⟩ | ⟨hl0, hw9, rfl, H25⟩ | ⟨hl0, hw1, hw2, rfl, H25⟩
            · skip
              exact absurd (tellS_ok (by omega) (by omega)) hl9
            · skip
              replace H25 : S wq24 [Ob g (.cells #[.pointer none, .int .i64 0, .slice P nr C, (.map (some mg)), .int .i64 tn, .int .i64 til, .bool begun, .bool true, .bool false, .bool false] 64 (0, 0)), Rw 68 1 P nr C (rosV rows), RowsI 59 1 ptL rows, Fam 71 Tk.cells (adr rows) tk, Mp Value.string (fun x : Int => Value.int .i64 x) okT mu MU, Mp Value.string (fun x : Int => Value.int .i64 x) okT mf MF, Old w no] := H22.absorbI (new := [Ob g (.cells #[.pointer none, .int .i64 0, .slice P nr C, (.map (some mg)), .int .i64 tn, .int .i64 til, .bool begun, .bool true, .bool false, .bool false] 64 (0, 0)), Rw 68 1 P nr C (rosV rows), RowsI 59 1 ptL rows, Fam 71 Tk.cells (adr rows) tk]) [0, 1, 2, 3] H25
              refine b_ret rfl rfl ?_
              refine l_of (s_val (v := .tuple #[.int .i64 0, .int .i64 8]) (wt0 rfl) rfl rfl (x_move rfl rfl) ?_)
              refine l_of (s_val (v := .int .i64 0) (wt0 rfl) rfl rfl (x_extract rfl rfl rfl) ?_)
              refine l_of (s_val (v := .int .i64 8) (wt0 rfl) rfl rfl (x_extract rfl rfl rfl) ?_)
              refine l_of (s_val (v := .int .i64 0) (wt0 rfl) rfl rfl (x_assign rfl rfl) ?_)
              refine l_of (s_val (v := .int .i64 8) (wt0 rfl) rfl rfl (x_assign rfl rfl) ?_)
              refine g_nil ?_
              refine g_then ?_
              refine g_seq ?_
              refine g_seq ?_
              refine g_region ?_
              refine l_of (s_val (v := .int .i64 8) (wt0 rfl) rfl rfl (x_move rfl rfl) ?_)
              refine l_of (s_val (v := .bool (!decide ((8 : Int) = 0))) (wt0 rfl) rfl rfl (x_bin rfl rfl rfl b_neq) ?_)
              refine l_of (s_val (v := .bool (!decide ((8 : Int) = 0))) (wt0 rfl) rfl rfl (x_move rfl rfl) ?_)
              refine l_of (s_not (wn1 rfl rfl rfl rfl (by decide)) rfl rfl ?_)
              refine l_of (s_not (wn1 rfl rfl rfl rfl (by decide)) rfl rfl ?_)
              refine l_of (s_val (v := .bool true) (wt0 rfl) rfl rfl (x_pick_t rfl rfl (by decide) rfl) ?_)
              refine g_nil ?_
              refine g_then ?_
              refine g_weak [(1, .slice p n c), (7, .pointer (some ⟨g, 0, none⟩)), (9, .map (some mu)), (10, .map (some mf)), (13, .int .i64 xe), (14, .int .i64 0), (54, .slice pe ne ce), (55, .int .i64 ((ne : Int))), (56, .int .i64 ((z : Int))), (71, .bool true)] ⟨rfl, rfl, rfl, rfl, rfl, rfl, rfl, rfl, rfl, rfl, trivial⟩ ?_
              refine g_cond_t rfl rfl ?_
              refine g_seq ?_
              refine g_region ?_
              refine l_of (s_call (wt0 rfl) (x_call' rfl rfl cl8) (awake_s _) ?_)
              rintro _ wq28 ⟨rfl, H29⟩
              replace H29 : S wq28 [Ob g (.cells #[.pointer none, .int .i64 0, .slice P nr C, (.map (some mg)), .int .i64 tn, .int .i64 til, .bool begun, .bool true, .bool false, .bool false] 64 (0, 0)), Rw 68 1 P nr C (rosV rows), RowsI 59 1 ptL rows, Fam 71 Tk.cells (adr rows) tk, Mp Value.string (fun x : Int => Value.int .i64 x) okT mu MU, Mp Value.string (fun x : Int => Value.int .i64 x) okT mf MF, Old w no] := H25.absorb (new := []) H29
              refine b_ret rfl rfl ?_
              refine l_of (s_val (v := .bool true) (wt0 rfl) rfl rfl (x_assign rfl rfl) ?_)
              refine g_nil ?_
              refine g_then ?_
              refine g_ret ?_
              refine g_then_ret ?_
              refine g_in_ret ?_
              refine g_then_ret ?_
              refine g_then_ret ?_
              refine g_in_ret ?_
              refine g_then_ret ?_
              refine fin_ret [.tmp 6] [.bool true] rfl ⟨rfl, trivial⟩ ?_
              exact ⟨rfl, H29.mask [false, false, false, false, false, false, true]⟩
            · skip
              replace H25 : S wq24 [Ob g (.cells #[.pointer none, .int .i64 0, .slice P nr C, (.map (some mg)), .int .i64 now, .int .i64 til, .bool begun, .bool true, .bool false, .bool false] 64 (0, 0)), Rw 68 1 P nr C (rosV rows), RowsI 59 1 ptL rows, Fam 71 Tk.cells (adr rows) tk, Mp Value.string (fun x : Int => Value.int .i64 x) okT mu MU, Mp Value.string (fun x : Int => Value.int .i64 x) okT mf MF, Old w no] := H22.absorbI (new := [Ob g (.cells #[.pointer none, .int .i64 0, .slice P nr C, (.map (some mg)), .int .i64 now, .int .i64 til, .bool begun, .bool true, .bool false, .bool false] 64 (0, 0)), Rw 68 1 P nr C (rosV rows), RowsI 59 1 ptL rows, Fam 71 Tk.cells (adr rows) tk]) [0, 1, 2, 3] H25
              obtain ⟨wv, hwv⟩ : ∃ wv, wv = max (whenF (evS begun false false) til tk (flatF 0 (lsOf rows))) now := ⟨_, rfl⟩
              refine b_ret rfl rfl ?_
              refine l_of (s_val (v := .tuple #[.int .i64 ((max (whenF (evS begun false false) til tk (flatF 0 (lsOf rows))) now)), .int .i64 0]) (wt0 rfl) rfl rfl (x_move rfl rfl) ?_)
              refine l_of (s_val (v := .int .i64 ((max (whenF (evS begun false false) til tk (flatF 0 (lsOf rows))) now))) (wt0 rfl) rfl rfl (x_extract rfl rfl rfl) ?_)
              refine l_of (s_val (v := .int .i64 0) (wt0 rfl) rfl rfl (x_extract rfl rfl rfl) ?_)
              refine l_of (s_val (v := .int .i64 wv) (wt0 rfl) rfl rfl (ex_cast (x_assign rfl rfl) (by rw [hwv])) ?_)
              refine l_of (s_val (v := .int .i64 0) (wt0 rfl) rfl rfl (x_assign rfl rfl) ?_)
              refine g_nil ?_
              refine g_then ?_
              refine g_seq ?_
              refine g_seq ?_
              refine g_region ?_
              refine l_of (s_val (v := .int .i64 0) (wt0 rfl) rfl rfl (x_move rfl rfl) ?_)
              refine l_of (s_val (v := .bool (!decide ((0 : Int) = 0))) (wt0 rfl) rfl rfl (x_bin rfl rfl rfl b_neq) ?_)
              refine l_of (s_val (v := .bool (!decide ((0 : Int) = 0))) (wt0 rfl) rfl rfl (x_move rfl rfl) ?_)
              refine l_of (s_val (v := .int .i64 wv) (wt1 rfl rfl rfl rfl (nf rfl)) rfl rfl (x_move rfl rfl) ?_)
              refine l_of (s_val (v := .bool (decide ((1000000000 : Int) < wv))) (wt1 rfl rfl rfl rfl (nf rfl)) rfl rfl (x_bin rfl rfl rfl b_gtr) ?_)
              refine l_of (s_val (v := .bool (decide ((1000000000 : Int) < wv))) (wt0 rfl) rfl rfl (x_pick_f rfl rfl (nf rfl) rfl) ?_)
              refine g_nil ?_
              refine g_then ?_
              refine g_weak [(1, .slice p n c), (7, .pointer (some ⟨g, 0, none⟩)), (9, .map (some mu)), (10, .map (some mf)), (13, .int .i64 xe), (14, .int .i64 wv), (54, .slice pe ne ce), (55, .int .i64 ((ne : Int))), (56, .int .i64 ((z : Int))), (71, .bool (decide ((1000000000 : Int) < wv)))] ⟨rfl, rfl, rfl, rfl, rfl, rfl, rfl, rfl, rfl, rfl, trivial⟩ ?_
              by_cases hb30 : (1000000000 : Int) < wv
              · skip
                refine g_cond_t rfl (decide_eq_true hb30) ?_
                refine g_seq ?_
                refine g_region ?_
                refine l_of (s_call (wt0 rfl) (x_call' rfl rfl cl8) (awake_s _) ?_)
                rintro _ wq31 ⟨rfl, H32⟩
                replace H32 : S wq31 [Ob g (.cells #[.pointer none, .int .i64 0, .slice P nr C, (.map (some mg)), .int .i64 now, .int .i64 til, .bool begun, .bool true, .bool false, .bool false] 64 (0, 0)), Rw 68 1 P nr C (rosV rows), RowsI 59 1 ptL rows, Fam 71 Tk.cells (adr rows) tk, Mp Value.string (fun x : Int => Value.int .i64 x) okT mu MU, Mp Value.string (fun x : Int => Value.int .i64 x) okT mf MF, Old w no] := H25.absorb (new := []) H32
                refine b_ret rfl rfl ?_
                refine l_of (s_val (v := .bool true) (wt0 rfl) rfl rfl (x_assign rfl rfl) ?_)
                refine g_nil ?_
                refine g_then ?_
                refine g_ret ?_
                refine g_then_ret ?_
                refine g_in_ret ?_
                refine g_then_ret ?_
                refine g_then_ret ?_
                refine g_in_ret ?_
                refine g_then_ret ?_
                refine fin_ret [.tmp 6] [.bool true] rfl ⟨rfl, trivial⟩ ?_
                exact ⟨rfl, H32.mask [false, false, false, false, false, false, true]⟩
              · skip
                refine g_cond_f rfl (decide_eq_false hb30) ?_
                refine g_skip ?_
                refine g_then ?_
                refine g_seq ?_
                refine g_region ?_
                refine l_of (s_val (v := .int .i64 wv) (wt0 rfl) rfl rfl (x_move rfl rfl) ?_)
                refine l_of (s_val (v := .int .i64 wv) (wt0 rfl) rfl rfl (x_assign rfl rfl) ?_)
                refine g_nil ?_
                refine g_then ?_
                refine g_seq ?_
                refine g_region ?_
                refine l_of (s_val (v := .pointer (some ⟨g, 0, none⟩)) (wt0 rfl) rfl rfl (x_move rfl rfl) ?_)
                refine l_of (s_val (v := .int .i64 wv) (wt0 rfl) rfl rfl (x_move rfl rfl) ?_)
                refine l_of (s_call (wt0 rfl) (x_call' rfl rfl cl11) (next_s hnrz hnr2 hrlz _ (H25.takes [0, 1, 2, 3] (by decide))) ?_)
                rintro ee41 wq39 hor42
                rcases hor42 with ⟨hl9, rfl, H40⟩ | ⟨hl0, hno9, rfl, H40⟩ | ⟨i33, k34, x35, post, pre, hsp36, hl0, hno37, hok38, rfl, H40⟩
                · skip
                  exact absurd (tellS_ok (by omega) (by omega)) hl9
                · skip
                  obtain ⟨p9, hp1, hp2⟩ := hI.some hev wv (by omega); exact absurd (hno9 p9 hp1) (by rw [hp2]; decide)
                · skip
                  replace H40 : S wq39 [Ob g (.cells #[.pointer (some ⟨x35, 0, none⟩), .int .i64 ((evS begun false false)), .slice P nr C, (.map (some mg)), .int .i64 wv, .int .i64 til, .bool begun, .bool true, .bool false, .bool false] 64 (0, 0)), Rw 68 1 P nr C (rosV rows), RowsI 59 1 ptL rows, Fam 71 Tk.cells (adr rows) tk, Mp Value.string (fun x : Int => Value.int .i64 x) okT mu MU, Mp Value.string (fun x : Int => Value.int .i64 x) okT mf MF, Old w no] := H25.absorbI (new := [Ob g (.cells #[.pointer (some ⟨x35, 0, none⟩), .int .i64 ((evS begun false false)), .slice P nr C, (.map (some mg)), .int .i64 wv, .int .i64 til, .bool begun, .bool true, .bool false, .bool false] 64 (0, 0)), Rw 68 1 P nr C (rosV rows), RowsI 59 1 ptL rows, Fam 71 Tk.cells (adr rows) tk]) [0, 1, 2, 3] H40
                  obtain ⟨r, hrow, hkx, hxa⟩ := place_at hsp36
                  have hrz := (hI.sane.lens r (List.mem_of_getElem? hrow))
                  have hkl := (List.getElem?_eq_some_iff.1 hkx).1
                  have hil := (List.getElem?_eq_some_iff.1 hrow).1
                  have htk := hI.trk x35 hxa
                  have hmf := hI.mf x35 hxa
                  have hokT : okT (tk x35).name := Nat.le_trans (hI.sane.size hxa) (by decide)
                  refine b_ret rfl rfl ?_
                  refine l_of (s_val (v := .tuple #[.agg #[.int .i64 ((i33 : Int)), .int .i64 ((k34 : Int)), .int .i64 wv, .int .i64 ((evS begun false false))], .int .i64 0]) (wt0 rfl) rfl rfl (x_move rfl rfl) ?_)
                  refine l_of (s_val (v := .agg #[.int .i64 ((i33 : Int)), .int .i64 ((k34 : Int)), .int .i64 wv, .int .i64 ((evS begun false false))]) (wt0 rfl) rfl rfl (x_extract rfl rfl rfl) ?_)
                  refine l_of (s_val (v := .int .i64 0) (wt0 rfl) rfl rfl (x_extract rfl rfl rfl) ?_)
                  refine l_of (s_alloc H40 (wt0 rfl) rfl rfl rfl ze34 ?_)
                  intro g43 wq44 H45
                  refine l_of (s_store H45 0 (wt0 rfl) rfl rfl rfl rfl rfl sz34 rfl rfl (cs' := #[.int .i64 ((i33 : Int)), .int .i64 ((k34 : Int)), .int .i64 wv, .int .i64 ((evS begun false false))]) rfl ?_)
                  intro wq46 H47
                  refine l_of (s_val (v := .int .i64 0) (wt0 rfl) rfl rfl (x_assign rfl rfl) ?_)
                  refine g_nil ?_
                  refine g_then ?_
                  refine g_seq ?_
                  refine g_seq ?_
                  refine g_region ?_
                  refine l_of (s_val (v := .int .i64 0) (wt0 rfl) rfl rfl (x_move rfl rfl) ?_)
                  refine l_of (s_val (v := .bool (!decide ((0 : Int) = 0))) (wt0 rfl) rfl rfl (x_bin rfl rfl rfl b_neq) ?_)
                  refine g_nil ?_
                  refine g_then ?_
                  refine g_cond_f rfl (nf rfl) ?_
                  refine g_skip ?_
                  refine g_then ?_
                  refine g_weak [(1, .slice p n c), (7, .pointer (some ⟨g, 0, none⟩)), (9, .map (some mu)), (10, .map (some mf)), (11, .int .i64 wv), (13, .int .i64 xe), (16, .pointer (some ⟨g43, 0, none⟩)), (54, .slice pe ne ce), (55, .int .i64 ((ne : Int))), (56, .int .i64 ((z : Int)))] ⟨rfl, rfl, rfl, rfl, rfl, rfl, rfl, rfl, rfl, rfl, trivial⟩ ?_
                  refine g_seq ?_
                  refine g_seq ?_
                  refine g_region ?_
                  refine l_of (s_val (v := .pointer (some ⟨g43, 0, none⟩)) (wt0 rfl) rfl rfl (x_fieldAddr rfl rfl fo34_0 rfl) ?_)
                  refine l_of (s_val (v := .int .i64 ((i33 : Int))) (wt0 rfl) rfl rfl (x_load1 H47 0 rfl rfl Try.underlying3 rfl rfl rfl) ?_)
                  refine l_of (s_val (v := .int .i64 0) (wt0 rfl) rfl rfl (x_move rfl rfl) ?_)
                  refine g_nil ?_
                  refine g_then ?_
                  refine g_block ?_
                  refine g_loop (ι := Nat) (fun iq => [(1, .slice p n c), (7, .pointer (some ⟨g, 0, none⟩)), (9, .map (some mu)), (10, .map (some mf)), (11, .int .i64 wv), (13, .int .i64 xe), (16, .pointer (some ⟨g43, 0, none⟩)), (54, .slice pe ne ce), (55, .int .i64 ((ne : Int))), (56, .int .i64 ((z : Int))), (83, .int .i64 ((i33 : Int))), (84, .int .i64 ((iq : Int)))]) (fun iq wx => (iq ≤ i33) ∧ S wx [Ob g43 (.cells #[.int .i64 ((i33 : Int)), .int .i64 ((k34 : Int)), .int .i64 wv, .int .i64 ((evS begun false false))] 34 (0, 0)), Ob g (.cells #[.pointer (some ⟨x35, 0, none⟩), .int .i64 ((evS begun false false)), .slice P nr C, (.map (some mg)), .int .i64 wv, .int .i64 til, .bool begun, .bool true, .bool false, .bool false] 64 (0, 0)), Rw 68 1 P nr C (rosV rows), RowsI 59 1 ptL rows, Fam 71 Tk.cells (adr rows) tk, Mp Value.string (fun x : Int => Value.int .i64 x) okT mu MU, Mp Value.string (fun x : Int => Value.int .i64 x) okT mf MF, Old w no]) (fun iq => i33 - iq) (0) ⟨rfl, rfl, rfl, rfl, rfl, rfl, rfl, rfl, rfl, rfl, rfl, rfl, trivial⟩ ⟨Nat.zero_le _, (H47.takes [0, 1, 2, 3, 4, 5, 6, 7] (by decide))⟩ ?_
                  rintro iq wq48 ⟨hiq, H49⟩
                  replace H49 : S wq48 [Ob g43 (.cells #[.int .i64 ((i33 : Int)), .int .i64 ((k34 : Int)), .int .i64 wv, .int .i64 ((evS begun false false))] 34 (0, 0)), Ob g (.cells #[.pointer (some ⟨x35, 0, none⟩), .int .i64 ((evS begun false false)), .slice P nr C, (.map (some mg)), .int .i64 wv, .int .i64 til, .bool begun, .bool true, .bool false, .bool false] 64 (0, 0)), Rw 68 1 P nr C (rosV rows), RowsI 59 1 ptL rows, Fam 71 Tk.cells (adr rows) tk, Mp Value.string (fun x : Int => Value.int .i64 x) okT mu MU, Mp Value.string (fun x : Int => Value.int .i64 x) okT mf MF, Old w no] := H49
                  refine g_weak [(1, .slice p n c), (7, .pointer (some ⟨g, 0, none⟩)), (9, .map (some mu)), (10, .map (some mf)), (11, .int .i64 wv), (13, .int .i64 xe), (16, .pointer (some ⟨g43, 0, none⟩)), (54, .slice pe ne ce), (55, .int .i64 ((ne : Int))), (56, .int .i64 ((z : Int))), (83, .int .i64 ((i33 : Int))), (84, .int .i64 ((iq : Int)))] ⟨rfl, rfl, rfl, rfl, rfl, rfl, rfl, rfl, rfl, rfl, rfl, rfl, trivial⟩ ?_
                  refine g_seq ?_
                  refine g_region ?_
                  refine l_of (s_val (v := .bool (decide (((iq : Int) : Int) < (i33 : Int)))) (wt0 rfl) rfl rfl (x_bin rfl rfl rfl b_lss) ?_)
                  refine g_nil ?_
                  refine g_then ?_
                  refine g_seq ?_
                  by_cases hb50 : ((iq : Int) : Int) < (i33 : Int)
                  · skip
                    obtain ⟨r2, hrow2⟩ : ∃ r, rows[iq]? = some r := ⟨_, List.getElem?_eq_getElem (by omega)⟩
                    have hrz2 := (hI.sane.lens r2 (List.mem_of_getElem? hrow2))
                    refine g_cond_t rfl (decide_eq_true hb50) ?_
                    refine g_skip ?_
                    refine g_then ?_
                    refine g_seq ?_
                    refine g_block ?_
                    refine g_seq ?_
                    refine g_region ?_
                    refine l_of (s_val (v := .int .i64 ((iq : Int))) (wt0 rfl) rfl rfl (x_move rfl rfl) ?_)
                    refine l_of (s_val (v := .int .i64 ((iq : Int))) (wt0 rfl) rfl rfl (x_assign rfl rfl) ?_)
                    refine g_nil ?_
                    refine g_then ?_
                    refine g_seq ?_
                    refine g_region ?_
                    refine l_of (s_val (v := .pointer (some ⟨g, 0, none⟩)) (wt0 rfl) rfl rfl (x_move rfl rfl) ?_)
                    refine l_of (s_val (v := .int .i64 ((iq : Int))) (wt0 rfl) rfl rfl (x_move rfl rfl) ?_)
                    refine l_of (s_call (wt0 rfl) (x_call' rfl rfl cl12) (order_s hnrz hnr2 hrlz _ (H49.takes [1, 2, 3, 4] (by decide))) ?_)
                    rintro ee58 wq56 hor59
                    rcases hor59 with ⟨hq9, rfl, H57⟩ | ⟨j51, rr55, p53, c54, hq9, hrw52, rfl, H57⟩
                    · skip
                      omega
                    · skip
                      have hj9 : j51 = iq := by omega
                      rw [hj9, hrow2] at hrw52
                      obtain rfl := Option.some.inj hrw52
                      replace H57 : S wq56 [Rw 9 1 p53 r2.l.length c54 (stV (namesT tk r2.l)), Ob g (.cells #[.pointer (some ⟨x35, 0, none⟩), .int .i64 ((evS begun false false)), .slice P nr C, (.map (some mg)), .int .i64 wv, .int .i64 til, .bool begun, .bool true, .bool false, .bool false] 64 (0, 0)), Rw 68 1 P nr C (rosV rows), RowsI 59 1 ptL rows, Fam 71 Tk.cells (adr rows) tk, Ob g43 (.cells #[.int .i64 ((i33 : Int)), .int .i64 ((k34 : Int)), .int .i64 wv, .int .i64 ((evS begun false false))] 34 (0, 0)), Mp Value.string (fun x : Int => Value.int .i64 x) okT mu MU, Mp Value.string (fun x : Int => Value.int .i64 x) okT mf MF, Old w no] := H49.absorbI (new := [Rw 9 1 p53 r2.l.length c54 (stV (namesT tk r2.l)), Ob g (.cells #[.pointer (some ⟨x35, 0, none⟩), .int .i64 ((evS begun false false)), .slice P nr C, (.map (some mg)), .int .i64 wv, .int .i64 til, .bool begun, .bool true, .bool false, .bool false] 64 (0, 0)), Rw 68 1 P nr C (rosV rows), RowsI 59 1 ptL rows, Fam 71 Tk.cells (adr rows) tk]) [1, 2, 3, 4] H57
                      refine b_ret rfl rfl ?_
                      refine l_of (s_val (v := .tuple #[.slice p53 r2.l.length c54, .int .i64 0]) (wt0 rfl) rfl rfl (x_move rfl rfl) ?_)
                      refine l_of (s_val (v := .slice p53 r2.l.length c54) (wt0 rfl) rfl rfl (x_extract rfl rfl rfl) ?_)
                      refine l_of (s_val (v := .int .i64 0) (wt0 rfl) rfl rfl (x_extract rfl rfl rfl) ?_)
                      refine l_of (s_val (v := .slice p53 r2.l.length c54) (wt0 rfl) rfl rfl (x_assign rfl rfl) ?_)
                      refine l_of (s_val (v := .int .i64 0) (wt0 rfl) rfl rfl (x_assign rfl rfl) ?_)
                      refine g_nil ?_
                      refine g_then ?_
                      refine g_seq ?_
                      refine g_seq ?_
                      refine g_region ?_
                      refine l_of (s_val (v := .int .i64 0) (wt0 rfl) rfl rfl (x_move rfl rfl) ?_)
                      refine l_of (s_val (v := .bool (!decide ((0 : Int) = 0))) (wt0 rfl) rfl rfl (x_bin rfl rfl rfl b_neq) ?_)
                      refine g_nil ?_
                      refine g_then ?_
                      refine g_cond_f rfl (nf rfl) ?_
                      refine g_skip ?_
                      refine g_then ?_
                      refine g_weak [(1, .slice p n c), (7, .pointer (some ⟨g, 0, none⟩)), (9, .map (some mu)), (10, .map (some mf)), (11, .int .i64 wv), (13, .int .i64 xe), (16, .pointer (some ⟨g43, 0, none⟩)), (18, .slice p53 r2.l.length c54), (54, .slice pe ne ce), (55, .int .i64 ((ne : Int))), (56, .int .i64 ((z : Int))), (83, .int .i64 ((i33 : Int))), (84, .int .i64 ((iq : Int)))] ⟨rfl, rfl, rfl, rfl, rfl, rfl, rfl, rfl, rfl, rfl, rfl, rfl, rfl, trivial⟩ ?_
                      refine g_seq ?_
                      refine g_region ?_
                      refine l_of (s_val (v := .slice p53 r2.l.length c54) (wt0 rfl) rfl rfl (x_move rfl rfl) ?_)
                      refine l_of (s_val (v := .int .i64 ((r2.l.length : Int))) (wt0 rfl) rfl rfl (x_lenl rfl rfl Try.underlying37) ?_)
                      refine l_of (s_val (v := .int .i64 0) (wt0 rfl) rfl rfl (x_move rfl rfl) ?_)
                      refine g_nil ?_
                      refine g_then ?_
                      refine g_block ?_
                      refine g_loop (ι := Nat) (fun kq => [(1, .slice p n c), (7, .pointer (some ⟨g, 0, none⟩)), (9, .map (some mu)), (10, .map (some mf)), (11, .int .i64 wv), (13, .int .i64 xe), (16, .pointer (some ⟨g43, 0, none⟩)), (54, .slice pe ne ce), (55, .int .i64 ((ne : Int))), (56, .int .i64 ((z : Int))), (83, .int .i64 ((i33 : Int))), (84, .int .i64 ((iq : Int))), (95, .slice p53 r2.l.length c54), (96, .int .i64 ((r2.l.length : Int))), (97, .int .i64 ((kq : Int)))]) (fun kq wx => (kq ≤ r2.l.length) ∧ S wx [Rw 9 1 p53 r2.l.length c54 (stV (namesT tk r2.l)), Ob g (.cells #[.pointer (some ⟨x35, 0, none⟩), .int .i64 ((evS begun false false)), .slice P nr C, (.map (some mg)), .int .i64 wv, .int .i64 til, .bool begun, .bool true, .bool false, .bool false] 64 (0, 0)), Rw 68 1 P nr C (rosV rows), RowsI 59 1 ptL rows, Fam 71 Tk.cells (adr rows) tk, Ob g43 (.cells #[.int .i64 ((i33 : Int)), .int .i64 ((k34 : Int)), .int .i64 wv, .int .i64 ((evS begun false false))] 34 (0, 0)), Mp Value.string (fun x : Int => Value.int .i64 x) okT mu MU, Mp Value.string (fun x : Int => Value.int .i64 x) okT mf MF, Old w no]) (fun kq => r2.l.length - kq) (0) ⟨rfl, rfl, rfl, rfl, rfl, rfl, rfl, rfl, rfl, rfl, rfl, rfl, rfl, rfl, rfl, trivial⟩ ⟨Nat.zero_le _, H57⟩ ?_
                      rintro kq wq60 ⟨hkq, H61⟩
                      replace H61 : S wq60 [Rw 9 1 p53 r2.l.length c54 (stV (namesT tk r2.l)), Ob g (.cells #[.pointer (some ⟨x35, 0, none⟩), .int .i64 ((evS begun false false)), .slice P nr C, (.map (some mg)), .int .i64 wv, .int .i64 til, .bool begun, .bool true, .bool false, .bool false] 64 (0, 0)), Rw 68 1 P nr C (rosV rows), RowsI 59 1 ptL rows, Fam 71 Tk.cells (adr rows) tk, Ob g43 (.cells #[.int .i64 ((i33 : Int)), .int .i64 ((k34 : Int)), .int .i64 wv, .int .i64 ((evS begun false false))] 34 (0, 0)), Mp Value.string (fun x : Int => Value.int .i64 x) okT mu MU, Mp Value.string (fun x : Int => Value.int .i64 x) okT mf MF, Old w no] := H61
                      refine g_weak [(1, .slice p n c), (7, .pointer (some ⟨g, 0, none⟩)), (9, .map (some mu)), (10, .map (some mf)), (11, .int .i64 wv), (13, .int .i64 xe), (16, .pointer (some ⟨g43, 0, none⟩)), (54, .slice pe ne ce), (55, .int .i64 ((ne : Int))), (56, .int .i64 ((z : Int))), (83, .int .i64 ((i33 : Int))), (84, .int .i64 ((iq : Int))), (95, .slice p53 r2.l.length c54), (96, .int .i64 ((r2.l.length : Int))), (97, .int .i64 ((kq : Int)))] ⟨rfl, rfl, rfl, rfl, rfl, rfl, rfl, rfl, rfl, rfl, rfl, rfl, rfl, rfl, rfl, trivial⟩ ?_
                      refine g_seq ?_
                      refine g_region ?_
                      refine l_of (s_val (v := .bool (decide (((kq : Int) : Int) < (r2.l.length : Int)))) (wt0 rfl) rfl rfl (x_bin rfl rfl rfl b_lss) ?_)
                      refine g_nil ?_
                      refine g_then ?_
                      refine g_seq ?_
                      by_cases hb62 : ((kq : Int) : Int) < (r2.l.length : Int)
                      · skip
                        obtain ⟨y, hy2⟩ : ∃ y, r2.l[kq]? = some y := ⟨_, List.getElem?_eq_getElem (by omega)⟩
                        have hya : y ∈ adr rows := mem_adr_row (List.mem_of_getElem? hrow2) (List.mem_of_getElem? hy2)
                        have hokY : okT (tk y).name := Nat.le_trans (hI.sane.size hya) (by decide)
                        have hmuy := hI.mu y hya
                        have hgt : wv < (tk y).after := waits_of hev hok38 (hno37 (iq, kq, y) (flat_pre hsp36 (mem_place hrow2 hy2) (by show iq < i33; omega)))
                        refine g_cond_t rfl (decide_eq_true hb62) ?_
                        refine g_skip ?_
                        refine g_then ?_
                        refine g_seq ?_
                        refine g_block ?_
                        refine g_seq ?_
                        refine g_region ?_
                        refine l_of (s_val (v := .pointer ((p53).map fun q => q.add (kq * 1))) (wt0 rfl) rfl rfl (x_idxR kq (H61.rwReads (k := 0) rfl) rfl rfl rfl Try.underlying37 sz9 (by omega)) ?_)
                        refine l_of (s_val (v := .string ((tk y).name)) (wt0 rfl) rfl rfl (x_loadR1 kq (H61.rwReads (k := 0) rfl) (by omega) rfl rfl Try.underlying9 rfl (stV_at (names_at hy2))) ?_)
                        refine l_of (s_val (v := .string ((tk y).name)) (wt0 rfl) rfl rfl (x_assign rfl rfl) ?_)
                        refine g_nil ?_
                        refine g_then ?_
                        refine g_seq ?_
                        refine g_region ?_
                        refine l_of (s_val (v := .map (some mu)) (wt0 rfl) rfl rfl (x_move rfl rfl) ?_)
                        refine l_of (s_val (v := .string ((tk y).name)) (wt0 rfl) rfl rfl (x_move rfl rfl) ?_)
                        refine l_of (s_val (v := .int .i64 (((MU (tk y).name).getD 0))) (wt0 rfl) rfl rfl (ex_cast (x_lookup1 (x := (tk y).name) (strTy Try.underlying30 Try.underlying9) H61 6 rfl rfl rfl rfl hokY ze3) (look_I _)) ?_)
                        refine l_of (s_val (v := .int .i64 wv) (wt0 rfl) rfl rfl (x_move rfl rfl) ?_)
                        refine l_of (s_val (v := .bool (decide ((((MU (tk y).name).getD 0) : Int) ≤ wv))) (wt0 rfl) rfl rfl (x_bin rfl rfl rfl b_leq) ?_)
                        refine g_nil ?_
                        refine g_then ?_
                        refine g_cond_f rfl (decide_eq_false (by omega)) ?_
                        refine g_skip ?_
                        refine g_in ?_
                        refine g_then ?_
                        refine g_region ?_
                        refine l_of (s_val (v := .int .i64 (((kq + 1 : Nat) : Int))) (wt0 rfl) rfl rfl (x_bin rfl rfl rfl (b_add (by rw [w64 (by omega)]; omega))) ?_)
                        refine l_of (s_val (v := .int .i64 (((kq + 1 : Nat) : Int))) (wt0 rfl) rfl rfl (x_move rfl rfl) ?_)
                        refine g_nil ?_
                        refine g_then ?_
                        refine g_round (i := (kq)) ((kq + 1)) ?_ ?_ ?_
                        · exact ⟨rfl, rfl, rfl, rfl, rfl, rfl, rfl, rfl, rfl, rfl, rfl, rfl, rfl, rfl, rfl, trivial⟩
                        · exact ⟨by omega, (H61.takes [0, 1, 2, 3, 4, 5, 6, 7, 8] (by decide))⟩
                        · (try dsimp only); omega
                      · skip
                        refine g_cond_f rfl (decide_eq_false hb62) ?_
                        refine g_exit ?_
                        refine g_then_exit ?_
                        refine g_then_exit ?_
                        refine g_in_hit ?_
                        refine g_in ?_
                        refine g_then ?_
                        refine g_region ?_
                        refine l_of (s_val (v := .int .i64 (((iq + 1 : Nat) : Int))) (wt0 rfl) rfl rfl (x_bin rfl rfl rfl (b_add (by rw [w64 (by omega)]; omega))) ?_)
                        refine l_of (s_val (v := .int .i64 (((iq + 1 : Nat) : Int))) (wt0 rfl) rfl rfl (x_move rfl rfl) ?_)
                        refine g_nil ?_
                        refine g_then ?_
                        refine g_round (i := (iq)) ((iq + 1)) ?_ ?_ ?_
                        · exact ⟨rfl, rfl, rfl, rfl, rfl, rfl, rfl, rfl, rfl, rfl, rfl, rfl, trivial⟩
                        · exact ⟨by omega, (H61.takes [5, 1, 2, 3, 4, 6, 7, 8] (by decide))⟩
                        · (try dsimp only); omega
                  · skip
                    refine g_cond_f rfl (decide_eq_false hb50) ?_
                    refine g_exit ?_
                    refine g_then_exit ?_
                    refine g_then_exit ?_
                    refine g_in_hit ?_
                    refine g_then ?_
                    refine g_seq ?_
                    refine g_region ?_
                    refine l_of (s_val (v := .pointer (some ⟨g, 0, none⟩)) (wt0 rfl) rfl rfl (x_move rfl rfl) ?_)
                    refine l_of (s_val (v := .pointer (some ⟨g43, 0, none⟩)) (wt0 rfl) rfl rfl (x_fieldAddr rfl rfl fo34_0 rfl) ?_)
                    refine l_of (s_val (v := .int .i64 ((i33 : Int))) (wt0 rfl) rfl rfl (x_load1 H49 0 rfl rfl Try.underlying3 rfl rfl rfl) ?_)
                    refine l_of (s_call (wt0 rfl) (x_call' rfl rfl cl12) (order_s hnrz hnr2 hrlz _ (H49.takes [1, 2, 3, 4] (by decide))) ?_)
                    rintro ee70 wq68 hor71
                    rcases hor71 with ⟨hq9, rfl, H69⟩ | ⟨j63, rr67, p65, c66, hq9, hrw64, rfl, H69⟩
                    · skip
                      omega
                    · skip
                      have hj9 : j63 = i33 := by omega
                      rw [hj9, hrow] at hrw64
                      obtain rfl := Option.some.inj hrw64
                      replace H69 : S wq68 [Rw 9 1 p65 r.l.length c66 (stV (namesT tk r.l)), Ob g (.cells #[.pointer (some ⟨x35, 0, none⟩), .int .i64 ((evS begun false false)), .slice P nr C, (.map (some mg)), .int .i64 wv, .int .i64 til, .bool begun, .bool true, .bool false, .bool false] 64 (0, 0)), Rw 68 1 P nr C (rosV rows), RowsI 59 1 ptL rows, Fam 71 Tk.cells (adr rows) tk, Ob g43 (.cells #[.int .i64 ((i33 : Int)), .int .i64 ((k34 : Int)), .int .i64 wv, .int .i64 ((evS begun false false))] 34 (0, 0)), Mp Value.string (fun x : Int => Value.int .i64 x) okT mu MU, Mp Value.string (fun x : Int => Value.int .i64 x) okT mf MF, Old w no] := H49.absorbI (new := [Rw 9 1 p65 r.l.length c66 (stV (namesT tk r.l)), Ob g (.cells #[.pointer (some ⟨x35, 0, none⟩), .int .i64 ((evS begun false false)), .slice P nr C, (.map (some mg)), .int .i64 wv, .int .i64 til, .bool begun, .bool true, .bool false, .bool false] 64 (0, 0)), Rw 68 1 P nr C (rosV rows), RowsI 59 1 ptL rows, Fam 71 Tk.cells (adr rows) tk]) [1, 2, 3, 4] H69
                      refine b_ret rfl rfl ?_
                      refine l_of (s_val (v := .tuple #[.slice p65 r.l.length c66, .int .i64 0]) (wt0 rfl) rfl rfl (x_move rfl rfl) ?_)
                      refine l_of (s_val (v := .slice p65 r.l.length c66) (wt0 rfl) rfl rfl (x_extract rfl rfl rfl) ?_)
                      refine l_of (s_val (v := .int .i64 0) (wt0 rfl) rfl rfl (x_extract rfl rfl rfl) ?_)
                      refine l_of (s_val (v := .slice p65 r.l.length c66) (wt0 rfl) rfl rfl (x_assign rfl rfl) ?_)
                      refine l_of (s_val (v := .int .i64 0) (wt0 rfl) rfl rfl (x_assign rfl rfl) ?_)
                      refine g_nil ?_
                      refine g_then ?_
                      refine g_seq ?_
                      refine g_seq ?_
                      refine g_region ?_
                      refine l_of (s_val (v := .int .i64 0) (wt0 rfl) rfl rfl (x_move rfl rfl) ?_)
                      refine l_of (s_val (v := .bool (!decide ((0 : Int) = 0))) (wt0 rfl) rfl rfl (x_bin rfl rfl rfl b_neq) ?_)
                      refine l_of (s_val (v := .bool (!decide ((0 : Int) = 0))) (wt0 rfl) rfl rfl (x_move rfl rfl) ?_)
                      refine l_of (s_val (v := .pointer (some ⟨g43, 1, none⟩)) (wt1 rfl rfl rfl rfl (nf rfl)) rfl rfl (x_fieldAddr rfl rfl fo34_1 rfl) ?_)
                      refine l_of (s_val (v := .int .i64 ((k34 : Int))) (wt1 rfl rfl rfl rfl (nf rfl)) rfl rfl (x_load1 H69 5 rfl rfl Try.underlying3 rfl rfl rfl) ?_)
                      refine l_of (s_val (v := .slice p65 r.l.length c66) (wt1 rfl rfl rfl rfl (nf rfl)) rfl rfl (x_move rfl rfl) ?_)
                      refine l_of (s_val (v := .int .i64 ((r.l.length : Int))) (wt1 rfl rfl rfl rfl (nf rfl)) rfl rfl (x_lenl rfl rfl Try.underlying37) ?_)
                      refine l_of (s_val (v := .bool (decide (((r.l.length : Int) : Int) ≤ (k34 : Int)))) (wt1 rfl rfl rfl rfl (nf rfl)) rfl rfl (x_bin rfl rfl rfl b_geq) ?_)
                      refine l_of (s_val (v := .bool (decide (((r.l.length : Int) : Int) ≤ (k34 : Int)))) (wt0 rfl) rfl rfl (x_pick_f rfl rfl (nf rfl) rfl) ?_)
                      refine g_nil ?_
                      refine g_then ?_
                      refine g_weak [(1, .slice p n c), (7, .pointer (some ⟨g, 0, none⟩)), (9, .map (some mu)), (10, .map (some mf)), (11, .int .i64 wv), (13, .int .i64 xe), (16, .pointer (some ⟨g43, 0, none⟩)), (22, .slice p65 r.l.length c66), (54, .slice pe ne ce), (55, .int .i64 ((ne : Int))), (56, .int .i64 ((z : Int))), (123, .bool (decide (((r.l.length : Int) : Int) ≤ (k34 : Int))))] ⟨rfl, rfl, rfl, rfl, rfl, rfl, rfl, rfl, rfl, rfl, rfl, rfl, trivial⟩ ?_
                      by_cases hb72 : ((r.l.length : Int) : Int) ≤ (k34 : Int)
                      · skip
                        refine g_cond_t rfl (decide_eq_true hb72) ?_
                        refine g_seq ?_
                        refine g_region ?_
                        refine l_of (s_val (v := .bool false) (wt0 rfl) rfl rfl (x_assign rfl rfl) ?_)
                        refine g_nil ?_
                        refine g_then ?_
                        refine g_weak [(6, .bool false)] ⟨rfl, trivial⟩ ?_
                        refine g_ret ?_
                        refine g_then_ret ?_
                        refine g_in_ret ?_
                        refine g_then_ret ?_
                        refine g_then_ret ?_
                        refine g_in_ret ?_
                        refine g_then_ret ?_
                        refine fin_ret [.tmp 6] [.bool false] rfl ⟨rfl, trivial⟩ ?_
                        exfalso; omega
                      · skip
                        refine g_cond_f rfl (decide_eq_false hb72) ?_
                        refine g_skip ?_
                        refine g_then ?_
                        refine g_seq ?_
                        refine g_region ?_
                        refine l_of (s_val (v := .slice p65 r.l.length c66) (wt0 rfl) rfl rfl (x_move rfl rfl) ?_)
                        refine l_of (s_val (v := .pointer (some ⟨g43, 1, none⟩)) (wt0 rfl) rfl rfl (x_fieldAddr rfl rfl fo34_1 rfl) ?_)
                        refine l_of (s_val (v := .int .i64 ((k34 : Int))) (wt0 rfl) rfl rfl (x_load1 H69 5 rfl rfl Try.underlying3 rfl rfl rfl) ?_)
                        refine l_of (s_val (v := .pointer ((p65).map fun q => q.add (k34 * 1))) (wt0 rfl) rfl rfl (x_idxR k34 (H69.rwReads (k := 0) rfl) rfl rfl rfl Try.underlying37 sz9 (by omega)) ?_)
                        refine l_of (s_val (v := .string ((tk x35).name)) (wt0 rfl) rfl rfl (x_loadR1 k34 (H69.rwReads (k := 0) rfl) (by omega) rfl rfl Try.underlying9 rfl (stV_at (names_at hkx))) ?_)
                        refine l_of (s_val (v := .string ((tk x35).name)) (wt0 rfl) rfl rfl (x_assign rfl rfl) ?_)
                        refine g_nil ?_
                        refine g_then ?_
                        refine g_seq ?_
                        refine g_region ?_
                        refine l_of (s_val (v := .int .i64 xe) (wt0 rfl) rfl rfl (x_move rfl rfl) ?_)
                        refine l_of (s_val (v := .int .i64 ((xe.tmod 3))) (wt0 rfl) rfl rfl (x_bin rfl rfl rfl (b_rem (by decide) rfl)) ?_)
                        refine l_of (s_val (v := .bool (decide ((0 : Int) < (xe.tmod 3)))) (wt0 rfl) rfl rfl (x_bin rfl rfl rfl b_gtr) ?_)
                        refine g_nil ?_
                        refine g_then ?_
                        by_cases hb73 : (0 : Int) < (xe.tmod 3)
                        · skip
                          refine g_cond_t rfl (decide_eq_true hb73) ?_
                          refine g_seq ?_
                          refine g_region ?_
                          refine l_of (s_val (v := .pointer (some ⟨g, 0, none⟩)) (wt0 rfl) rfl rfl (x_move rfl rfl) ?_)
                          refine l_of (s_val (v := .int .i64 wv) (wt0 rfl) rfl rfl (x_move rfl rfl) ?_)
                          refine l_of (s_call (wt0 rfl) (x_call' rfl rfl cl14) (fail_f hxa (by omega) (by omega) (by omega) _ (H69.takes [1, 4] (by decide))) ?_)
                          rintro ee76 wq74 hor77
                          rcases hor77 with ⟨hl9, rfl, H75⟩ | ⟨hl0, rfl, H75⟩
                          · skip
                            exact absurd (tellS_ok (by omega) (by omega)) hl9
                          · skip
                            replace H75 : S wq74 [Ob g (.cells #[.pointer none, .int .i64 0, .slice P nr C, (.map (some mg)), .int .i64 wv, .int .i64 til, .bool begun, .bool true, .bool false, .bool false] 64 (0, 0)), Fam 71 Tk.cells (adr rows) (upd tk x35 (⟨(tk x35).name, (tk x35).failed + 1, wv + waitS ((tk x35).failed + 1), (tk x35).ans, (tk x35).told || decide ((evS begun false false) = 2)⟩ : Tk)), Rw 9 1 p65 r.l.length c66 (stV (namesT tk r.l)), Rw 68 1 P nr C (rosV rows), RowsI 59 1 ptL rows, Ob g43 (.cells #[.int .i64 ((i33 : Int)), .int .i64 ((k34 : Int)), .int .i64 wv, .int .i64 ((evS begun false false))] 34 (0, 0)), Mp Value.string (fun x : Int => Value.int .i64 x) okT mu MU, Mp Value.string (fun x : Int => Value.int .i64 x) okT mf MF, Old w no] := H69.absorbI (new := [Ob g (.cells #[.pointer none, .int .i64 0, .slice P nr C, (.map (some mg)), .int .i64 wv, .int .i64 til, .bool begun, .bool true, .bool false, .bool false] 64 (0, 0)), Fam 71 Tk.cells (adr rows) (upd tk x35 (⟨(tk x35).name, (tk x35).failed + 1, wv + waitS ((tk x35).failed + 1), (tk x35).ans, (tk x35).told || decide ((evS begun false false) = 2)⟩ : Tk))]) [1, 4] H75
                            refine b_ret rfl rfl ?_
                            refine g_nil ?_
                            refine g_then ?_
                            refine g_weak [(1, .slice p n c), (7, .pointer (some ⟨g, 0, none⟩)), (9, .map (some mu)), (10, .map (some mf)), (11, .int .i64 wv), (23, .string ((tk x35).name)), (54, .slice pe ne ce), (55, .int .i64 ((ne : Int))), (56, .int .i64 ((z : Int)))] ⟨rfl, rfl, rfl, rfl, rfl, rfl, rfl, rfl, rfl, trivial⟩ ?_
                            refine g_seq ?_
                            refine g_region ?_
                            refine l_of (s_val (v := .map (some mf)) (wt0 rfl) rfl rfl (x_move rfl rfl) ?_)
                            refine l_of (s_val (v := .string ((tk x35).name)) (wt0 rfl) rfl rfl (x_move rfl rfl) ?_)
                            refine l_of (s_val (v := .int .i64 (((MF (tk x35).name).getD 0))) (wt0 rfl) rfl rfl (ex_cast (x_lookup1 (x := (tk x35).name) (strTy Try.underlying30 Try.underlying9) H75 7 rfl rfl rfl rfl hokT ze3) (look_I _)) ?_)
                            refine l_of (s_val (v := .int .i64 (((MF (tk x35).name).getD 0) + 1)) (wt0 rfl) rfl rfl (x_bin rfl rfl rfl (b_add (w64 (by omega)))) ?_)
                            refine l_of (s_mapUpdate (x := (tk x35).name) (a := ((MF (tk x35).name).getD 0 + 1)) (strTy Try.underlying30 Try.underlying9) H75 7 (wt0 rfl) rfl rfl rfl rfl rfl rfl hokT ?_)
                            intro wq78 H79
                            replace H79 : S wq78 [Ob g (.cells #[.pointer none, .int .i64 0, .slice P nr C, (.map (some mg)), .int .i64 wv, .int .i64 til, .bool begun, .bool true, .bool false, .bool false] 64 (0, 0)), Fam 71 Tk.cells (adr rows) (upd tk x35 (⟨(tk x35).name, (tk x35).failed + 1, wv + waitS ((tk x35).failed + 1), (tk x35).ans, (tk x35).told || decide ((evS begun false false) = 2)⟩ : Tk)), Rw 9 1 p65 r.l.length c66 (stV (namesT tk r.l)), Rw 68 1 P nr C (rosV rows), RowsI 59 1 ptL rows, Ob g43 (.cells #[.int .i64 ((i33 : Int)), .int .i64 ((k34 : Int)), .int .i64 wv, .int .i64 ((evS begun false false))] 34 (0, 0)), Mp Value.string (fun x : Int => Value.int .i64 x) okT mu MU, Mp Value.string (fun x : Int => Value.int .i64 x) okT mf (upM MF (tk x35).name ((MF (tk x35).name).getD 0 + 1)), Old w no] := H79
                            refine g_nil ?_
                            refine g_then ?_
                            refine g_region ?_
                            refine l_of (s_val (v := .map (some mu)) (wt0 rfl) rfl rfl (x_move rfl rfl) ?_)
                            refine l_of (s_val (v := .string ((tk x35).name)) (wt0 rfl) rfl rfl (x_move rfl rfl) ?_)
                            refine l_of (s_val (v := .int .i64 wv) (wt0 rfl) rfl rfl (x_move rfl rfl) ?_)
                            refine l_of (s_val (v := .map (some mf)) (wt0 rfl) rfl rfl (x_move rfl rfl) ?_)
                            refine l_of (s_val (v := .string ((tk x35).name)) (wt0 rfl) rfl rfl (x_move rfl rfl) ?_)
                            have hws := waitS_ge ((MF (tk x35).name).getD 0 + 1) (by omega)
                            refine l_of (s_val (v := .int .i64 (((MF (tk x35).name).getD 0 + 1))) (wt0 rfl) rfl rfl (ex_cast (x_lookup1 (x := (tk x35).name) (strTy Try.underlying30 Try.underlying9) H79 7 rfl rfl rfl rfl hokT ze3) (by rw [show (upM MF (tk x35).name ((MF (tk x35).name).getD 0 + 1)) (tk x35).name = some _ from if_pos rfl]; rfl)) ?_)
                            refine l_of (s_call (wt0 rfl) (x_call' rfl rfl cl13) (wait_r _ (by omega) (by omega) _) ?_)
                            rintro _ wq80 ⟨rfl, H81⟩
                            replace H81 : S wq80 [Ob g (.cells #[.pointer none, .int .i64 0, .slice P nr C, (.map (some mg)), .int .i64 wv, .int .i64 til, .bool begun, .bool true, .bool false, .bool false] 64 (0, 0)), Fam 71 Tk.cells (adr rows) (upd tk x35 (⟨(tk x35).name, (tk x35).failed + 1, wv + waitS ((tk x35).failed + 1), (tk x35).ans, (tk x35).told || decide ((evS begun false false) = 2)⟩ : Tk)), Rw 9 1 p65 r.l.length c66 (stV (namesT tk r.l)), Rw 68 1 P nr C (rosV rows), RowsI 59 1 ptL rows, Ob g43 (.cells #[.int .i64 ((i33 : Int)), .int .i64 ((k34 : Int)), .int .i64 wv, .int .i64 ((evS begun false false))] 34 (0, 0)), Mp Value.string (fun x : Int => Value.int .i64 x) okT mu MU, Mp Value.string (fun x : Int => Value.int .i64 x) okT mf (upM MF (tk x35).name ((MF (tk x35).name).getD 0 + 1)), Old w no] := H79.absorb (new := []) H81
                            refine b_ret rfl rfl ?_
                            refine l_of (s_val (v := .int .i64 (wv + (waitS ((MF (tk x35).name).getD 0 + 1)))) (wt0 rfl) rfl rfl (x_bin rfl rfl rfl (b_add (w64 (by omega)))) ?_)
                            refine l_of (s_mapUpdate (x := (tk x35).name) (a := (wv + waitS ((MF (tk x35).name).getD 0 + 1))) (strTy Try.underlying30 Try.underlying9) H81 6 (wt0 rfl) rfl rfl rfl rfl rfl rfl hokT ?_)
                            intro wq82 H83
                            replace H83 : S wq82 [Ob g (.cells #[.pointer none, .int .i64 0, .slice P nr C, (.map (some mg)), .int .i64 wv, .int .i64 til, .bool begun, .bool true, .bool false, .bool false] 64 (0, 0)), Fam 71 Tk.cells (adr rows) (upd tk x35 (⟨(tk x35).name, (tk x35).failed + 1, wv + waitS ((tk x35).failed + 1), (tk x35).ans, (tk x35).told || decide ((evS begun false false) = 2)⟩ : Tk)), Rw 9 1 p65 r.l.length c66 (stV (namesT tk r.l)), Rw 68 1 P nr C (rosV rows), RowsI 59 1 ptL rows, Ob g43 (.cells #[.int .i64 ((i33 : Int)), .int .i64 ((k34 : Int)), .int .i64 wv, .int .i64 ((evS begun false false))] 34 (0, 0)), Mp Value.string (fun x : Int => Value.int .i64 x) okT mu (upM MU (tk x35).name (wv + waitS ((MF (tk x35).name).getD 0 + 1))), Mp Value.string (fun x : Int => Value.int .i64 x) okT mf (upM MF (tk x35).name ((MF (tk x35).name).getD 0 + 1)), Old w no] := H83
                            refine g_nil ?_
                            refine g_in ?_
                            refine g_then ?_
                            refine g_weak [(1, .slice p n c), (7, .pointer (some ⟨g, 0, none⟩)), (9, .map (some mu)), (10, .map (some mf)), (11, .int .i64 wv), (54, .slice pe ne ce), (55, .int .i64 ((ne : Int))), (56, .int .i64 ((z : Int)))] ⟨rfl, rfl, rfl, rfl, rfl, rfl, rfl, rfl, trivial⟩ ?_
                            refine g_region ?_
                            refine l_of (s_val (v := .int .i64 ((z : Int) + 1)) (wt0 rfl) rfl rfl (x_bin rfl rfl rfl (b_add (w64 (by omega)))) ?_)
                            refine l_of (s_val (v := .int .i64 ((z : Int) + 1)) (wt0 rfl) rfl rfl (x_move rfl rfl) ?_)
                            refine g_nil ?_
                            refine g_then ?_
                            refine g_round (i := (z, rows, tk, tn, til, now, begun, MU, MF)) ((z + 1), rows, (upd tk x35 (⟨(tk x35).name, (tk x35).failed + 1, wv + waitS ((tk x35).failed + 1), (tk x35).ans, (tk x35).told || decide ((evS begun false false) = 2)⟩ : Tk)), wv, til, wv, begun, (upM MU (tk x35).name (wv + waitS ((MF (tk x35).name).getD 0 + 1))), (upM MF (tk x35).name ((MF (tk x35).name).getD 0 + 1))) ?_ ?_ ?_
                            · exact ⟨rfl, rfl, rfl, rfl, rfl, rfl, rfl, rfl, trivial⟩
                            · exact ⟨by omega, hnrz, (hI.fail hxa (by omega) (by omega) _), (H83.takes [0, 3, 4, 1, 6, 7, 8] (by decide))⟩
                            · (try dsimp only); omega
                        · skip
                          refine g_cond_f rfl (decide_eq_false hb73) ?_
                          refine g_seq ?_
                          refine g_region ?_
                          refine l_of (s_val (v := .pointer (some ⟨g, 0, none⟩)) (wt0 rfl) rfl rfl (x_move rfl rfl) ?_)
                          refine l_of (s_val (v := .int .i64 wv) (wt0 rfl) rfl rfl (x_move rfl rfl) ?_)
                          refine l_of (s_call (wt0 rfl) (x_call' rfl rfl cl15) (answer_s hnrz hnr2 hrlz hxa (by omega) _ (H69.takes [1, 2, 3, 4] (by decide))) ?_)
                          rintro ee86 wq84 hor87
                          rcases hor87 with ⟨hi9, rfl, H85⟩ | ⟨_, _, hl9, rfl, H85⟩ | ⟨_, _, hl0, he9, rfl, H85⟩ | ⟨_, _, hl0, he9, rfl, H85⟩
                          · skip
                            omega
                          · skip
                            exact absurd (tellS_ok (by omega) (by omega)) hl9
                          · skip
                            exact absurd he9 hev
                          · skip
                            replace H85 : S wq84 [Ob g (.cells #[.pointer none, .int .i64 0, .slice P nr C, (.map (some mg)), .int .i64 wv, .int .i64 ((wv + 5000)), .bool ((begun || decide ((evS begun false false) = 1))), .bool true, .bool ((false && !decide ((evS begun false false) = 3))), .bool false] 64 (0, 0)), Rw 68 1 P nr C (rosV (rows.map (frontR x35))), RowsI 59 1 ptL (rows.map (frontR x35)), Fam 71 Tk.cells (adr (rows.map (frontR x35))) (upd tk x35 ⟨(tk x35).name, 0, 0, true, false⟩), Rw 9 1 p65 r.l.length c66 (stV (namesT tk r.l)), Ob g43 (.cells #[.int .i64 ((i33 : Int)), .int .i64 ((k34 : Int)), .int .i64 wv, .int .i64 ((evS begun false false))] 34 (0, 0)), Mp Value.string (fun x : Int => Value.int .i64 x) okT mu MU, Mp Value.string (fun x : Int => Value.int .i64 x) okT mf MF, Old w no] := H69.absorbI (new := [Ob g (.cells #[.pointer none, .int .i64 0, .slice P nr C, (.map (some mg)), .int .i64 wv, .int .i64 ((wv + 5000)), .bool ((begun || decide ((evS begun false false) = 1))), .bool true, .bool ((false && !decide ((evS begun false false) = 3))), .bool false] 64 (0, 0)), Rw 68 1 P nr C (rosV (rows.map (frontR x35))), RowsI 59 1 ptL (rows.map (frontR x35)), Fam 71 Tk.cells (adr (rows.map (frontR x35))) (upd tk x35 ⟨(tk x35).name, 0, 0, true, false⟩)]) [1, 2, 3, 4] H85
                            refine b_ret rfl rfl ?_
                            refine g_nil ?_
                            refine g_then ?_
                            refine g_weak [(1, .slice p n c), (7, .pointer (some ⟨g, 0, none⟩)), (9, .map (some mu)), (10, .map (some mf)), (11, .int .i64 wv), (23, .string ((tk x35).name)), (54, .slice pe ne ce), (55, .int .i64 ((ne : Int))), (56, .int .i64 ((z : Int)))] ⟨rfl, rfl, rfl, rfl, rfl, rfl, rfl, rfl, rfl, trivial⟩ ?_
                            refine g_region ?_
                            refine l_of (s_val (v := .map (some mf)) (wt0 rfl) rfl rfl (x_move rfl rfl) ?_)
                            refine l_of (s_val (v := .string ((tk x35).name)) (wt0 rfl) rfl rfl (x_move rfl rfl) ?_)
                            refine l_of (s_val (v := .map (some mu)) (wt0 rfl) rfl rfl (x_move rfl rfl) ?_)
                            refine l_of (s_val (v := .string ((tk x35).name)) (wt0 rfl) rfl rfl (x_move rfl rfl) ?_)
                            refine l_of (s_mapUpdate (x := (tk x35).name) (a := 0) (strTy Try.underlying30 Try.underlying9) H85 7 (wt0 rfl) rfl rfl rfl rfl rfl rfl hokT ?_)
                            intro wq88 H89
                            replace H89 : S wq88 [Ob g (.cells #[.pointer none, .int .i64 0, .slice P nr C, (.map (some mg)), .int .i64 wv, .int .i64 ((wv + 5000)), .bool ((begun || decide ((evS begun false false) = 1))), .bool true, .bool ((false && !decide ((evS begun false false) = 3))), .bool false] 64 (0, 0)), Rw 68 1 P nr C (rosV (rows.map (frontR x35))), RowsI 59 1 ptL (rows.map (frontR x35)), Fam 71 Tk.cells (adr (rows.map (frontR x35))) (upd tk x35 ⟨(tk x35).name, 0, 0, true, false⟩), Rw 9 1 p65 r.l.length c66 (stV (namesT tk r.l)), Ob g43 (.cells #[.int .i64 ((i33 : Int)), .int .i64 ((k34 : Int)), .int .i64 wv, .int .i64 ((evS begun false false))] 34 (0, 0)), Mp Value.string (fun x : Int => Value.int .i64 x) okT mu MU, Mp Value.string (fun x : Int => Value.int .i64 x) okT mf (upM MF (tk x35).name 0), Old w no] := H89
                            refine l_of (s_mapUpdate (x := (tk x35).name) (a := 0) (strTy Try.underlying30 Try.underlying9) H89 6 (wt0 rfl) rfl rfl rfl rfl rfl rfl hokT ?_)
                            intro wq90 H91
                            replace H91 : S wq90 [Ob g (.cells #[.pointer none, .int .i64 0, .slice P nr C, (.map (some mg)), .int .i64 wv, .int .i64 ((wv + 5000)), .bool ((begun || decide ((evS begun false false) = 1))), .bool true, .bool ((false && !decide ((evS begun false false) = 3))), .bool false] 64 (0, 0)), Rw 68 1 P nr C (rosV (rows.map (frontR x35))), RowsI 59 1 ptL (rows.map (frontR x35)), Fam 71 Tk.cells (adr (rows.map (frontR x35))) (upd tk x35 ⟨(tk x35).name, 0, 0, true, false⟩), Rw 9 1 p65 r.l.length c66 (stV (namesT tk r.l)), Ob g43 (.cells #[.int .i64 ((i33 : Int)), .int .i64 ((k34 : Int)), .int .i64 wv, .int .i64 ((evS begun false false))] 34 (0, 0)), Mp Value.string (fun x : Int => Value.int .i64 x) okT mu (upM MU (tk x35).name 0), Mp Value.string (fun x : Int => Value.int .i64 x) okT mf (upM MF (tk x35).name 0), Old w no] := H91
                            refine g_nil ?_
                            refine g_in ?_
                            refine g_then ?_
                            refine g_region ?_
                            refine l_of (s_val (v := .int .i64 ((z : Int) + 1)) (wt0 rfl) rfl rfl (x_bin rfl rfl rfl (b_add (w64 (by omega)))) ?_)
                            refine l_of (s_val (v := .int .i64 ((z : Int) + 1)) (wt0 rfl) rfl rfl (x_move rfl rfl) ?_)
                            refine g_nil ?_
                            refine g_then ?_
                            refine g_round (i := (z, rows, tk, tn, til, now, begun, MU, MF)) ((z + 1), (rows.map (frontR x35)), (upd tk x35 ⟨(tk x35).name, 0, 0, true, false⟩), wv, (wv + 5000), wv, (begun || decide ((evS begun false false) = 1)), (upM MU (tk x35).name 0), (upM MF (tk x35).name 0)) ?_ ?_ ?_
                            · exact ⟨rfl, rfl, rfl, rfl, rfl, rfl, rfl, rfl, trivial⟩
                            · exact ⟨by omega, (by rw [List.length_map]; exact hnrz), (hI.answer (iv := 5000) hxa (by omega) (by omega) (by omega)), (H91.takes [0, 1, 2, 3, 6, 7, 8] (by decide))⟩
                            · (try dsimp only); omega
          · skip
            refine g_cond_f rfl (decide_eq_false hb23) ?_
            refine g_exit ?_
            refine g_then_exit ?_
            refine g_then_exit ?_
            refine g_in_hit ?_
            refine g_then ?_
            refine g_seq ?_
            refine g_seq ?_
            refine g_region ?_
            refine l_of (s_val (v := .slice p n c) (wt0 rfl) rfl rfl (x_move rfl rfl) ?_)
            refine l_of (s_val (v := .int .i64 ((n : Int))) (wt0 rfl) rfl rfl (x_lenl rfl rfl Try.underlying22) ?_)
            refine l_of (s_val (v := .int .i64 0) (wt0 rfl) rfl rfl (x_move rfl rfl) ?_)
            refine g_nil ?_
            refine g_then ?_
            refine g_block ?_
            refine g_loop (ι := Nat) (fun i3 => [(7, .pointer (some ⟨g, 0, none⟩)), (155, .slice p n c), (156, .int .i64 ((n : Int))), (157, .int .i64 ((i3 : Int)))]) (fun i3 wx => (i3 ≤ n) ∧ S wx [Ob g (.cells #[.pointer none, .int .i64 0, .slice P nr C, (.map (some mg)), .int .i64 tn, .int .i64 til, .bool begun, .bool true, .bool false, .bool false] 64 (0, 0)), Rw 68 1 P nr C (rosV rows), RowsI 59 1 ptL rows, Fam 71 Tk.cells (adr rows) tk, Old w no]) (fun i3 => n - i3) (0) ⟨rfl, rfl, rfl, rfl, trivial⟩ ⟨Nat.zero_le _, (H22.takes [0, 1, 2, 3, 6] (by decide))⟩ ?_
            rintro i3 wq92 ⟨hi3, H93⟩
            replace H93 : S wq92 [Ob g (.cells #[.pointer none, .int .i64 0, .slice P nr C, (.map (some mg)), .int .i64 tn, .int .i64 til, .bool begun, .bool true, .bool false, .bool false] 64 (0, 0)), Rw 68 1 P nr C (rosV rows), RowsI 59 1 ptL rows, Fam 71 Tk.cells (adr rows) tk, Old w no] := H93
            refine g_weak [(7, .pointer (some ⟨g, 0, none⟩)), (155, .slice p n c), (156, .int .i64 ((n : Int))), (157, .int .i64 ((i3 : Int)))] ⟨rfl, rfl, rfl, rfl, trivial⟩ ?_
            refine g_seq ?_
            refine g_region ?_
            refine l_of (s_val (v := .bool (decide (((i3 : Int) : Int) < (n : Int)))) (wt0 rfl) rfl rfl (x_bin rfl rfl rfl b_lss) ?_)
            refine g_nil ?_
            refine g_then ?_
            refine g_seq ?_
            by_cases hb94 : ((i3 : Int) : Int) < (n : Int)
            · skip
              obtain ⟨q, hq⟩ : ∃ q, ls[i3]? = some q := ⟨_, List.getElem?_eq_getElem (by omega)⟩
              have hlen3 := hI.len
              obtain ⟨r3, hrow3⟩ : ∃ r, rows[i3]? = some r := ⟨_, List.getElem?_eq_getElem (by omega)⟩
              have hrz3 := (hI.sane.lens r3 (List.mem_of_getElem? hrow3))
              have hperm := hI.perm i3 r3 q hrow3 hq
              have hpl := hperm.length_eq
              rw [show (namesT tk r3.l).length = r3.l.length from List.length_map ..] at hpl
              have hrq := hrs q (List.mem_of_getElem? hq)
              obtain ⟨qa, hqa, _⟩ := hrq.2.2 (by omega)
              refine g_cond_t rfl (decide_eq_true hb94) ?_
              refine g_skip ?_
              refine g_then ?_
              refine g_seq ?_
              refine g_block ?_
              refine g_seq ?_
              refine g_region ?_
              refine l_of (s_val (v := .int .i64 ((i3 : Int))) (wt0 rfl) rfl rfl (x_move rfl rfl) ?_)
              refine l_of (s_val (v := .pointer ((p).map fun q => q.add (i3 * 1))) (wt0 rfl) rfl rfl (x_idxR i3 (H93.oldReads (k := 4) rfl hr) rfl rfl rfl Try.underlying22 sz37 (by omega)) ?_)
              refine l_of (s_val (v := .slice q.p q.l.length q.c) (wt0 rfl) rfl rfl (x_loadR1 i3 (H93.oldReads (k := 4) rfl hr) (by omega) rfl rfl Try.underlying37 rfl (rosV_at hq)) ?_)
              refine l_of (s_val (v := .int .i64 ((i3 : Int))) (wt0 rfl) rfl rfl (x_assign rfl rfl) ?_)
              refine l_of (s_val (v := .slice q.p q.l.length q.c) (wt0 rfl) rfl rfl (x_assign rfl rfl) ?_)
              refine g_nil ?_
              refine g_then ?_
              refine g_seq ?_
              refine g_region ?_
              refine l_of (s_val (v := .pointer (some ⟨g, 0, none⟩)) (wt0 rfl) rfl rfl (x_move rfl rfl) ?_)
              refine l_of (s_val (v := .int .i64 ((i3 : Int))) (wt0 rfl) rfl rfl (x_move rfl rfl) ?_)
              refine l_of (s_call (wt0 rfl) (x_call' rfl rfl cl12) (order_s hnrz hnr2 hrlz _ (H93.takes [0, 1, 2, 3] (by decide))) ?_)
              rintro ee102 wq100 hor103
              rcases hor103 with ⟨hq9, rfl, H101⟩ | ⟨j95, rr99, p97, c98, hq9, hrw96, rfl, H101⟩
              · skip
                omega
              · skip
                have hj9 : j95 = i3 := by omega
                rw [hj9, hrow3] at hrw96
                obtain rfl := Option.some.inj hrw96
                replace H101 : S wq100 [Rw 9 1 p97 r3.l.length c98 (stV (namesT tk r3.l)), Ob g (.cells #[.pointer none, .int .i64 0, .slice P nr C, (.map (some mg)), .int .i64 tn, .int .i64 til, .bool begun, .bool true, .bool false, .bool false] 64 (0, 0)), Rw 68 1 P nr C (rosV rows), RowsI 59 1 ptL rows, Fam 71 Tk.cells (adr rows) tk, Old w no] := H93.absorbI (new := [Rw 9 1 p97 r3.l.length c98 (stV (namesT tk r3.l)), Ob g (.cells #[.pointer none, .int .i64 0, .slice P nr C, (.map (some mg)), .int .i64 tn, .int .i64 til, .bool begun, .bool true, .bool false, .bool false] 64 (0, 0)), Rw 68 1 P nr C (rosV rows), RowsI 59 1 ptL rows, Fam 71 Tk.cells (adr rows) tk]) [0, 1, 2, 3] H101
                refine b_ret rfl rfl ?_
                refine l_of (s_val (v := .tuple #[.slice p97 r3.l.length c98, .int .i64 0]) (wt0 rfl) rfl rfl (x_move rfl rfl) ?_)
                refine l_of (s_val (v := .slice p97 r3.l.length c98) (wt0 rfl) rfl rfl (x_extract rfl rfl rfl) ?_)
                refine l_of (s_val (v := .int .i64 0) (wt0 rfl) rfl rfl (x_extract rfl rfl rfl) ?_)
                refine l_of (s_val (v := .slice p97 r3.l.length c98) (wt0 rfl) rfl rfl (x_assign rfl rfl) ?_)
                refine l_of (s_val (v := .int .i64 0) (wt0 rfl) rfl rfl (x_assign rfl rfl) ?_)
                refine g_nil ?_
                refine g_then ?_
                refine g_seq ?_
                refine g_region ?_
                have H104 : S wq100 [Rw 9 1 none 0 0 (stV []), Rw 9 1 p97 r3.l.length c98 (stV (namesT tk r3.l)), Ob g (.cells #[.pointer none, .int .i64 0, .slice P nr C, (.map (some mg)), .int .i64 tn, .int .i64 til, .bool begun, .bool true, .bool false, .bool false] 64 (0, 0)), Rw 68 1 P nr C (rosV rows), RowsI 59 1 ptL rows, Fam 71 Tk.cells (adr rows) tk, Old w no] := H101.nilRw 9 1
                refine l_of (s_val (v := .slice none 0 0) (wt0 rfl) rfl rfl (x_assign rfl rfl) ?_)
                refine g_nil ?_
                refine g_then ?_
                refine g_seq ?_
                refine g_region ?_
                refine l_of (s_val (v := .slice none 0 0) (wt0 rfl) rfl rfl (x_move rfl rfl) ?_)
                refine l_of (s_val (v := .slice q.p q.l.length q.c) (wt0 rfl) rfl rfl (x_move rfl rfl) ?_)
                refine l_of (s_appendW (n := 0) (m := q.l.length) (sc := 0) (xs := stV []) (news := stV q.l) (p := none) (q := some qa) H104 0 (wt0 rfl) rfl rfl rfl rfl (congrArg (fun z => some (Value.slice z q.l.length q.c)) hqa) rfl Try.underlying37 inf9 rfl (by decide) (by decide) (by rw [← hqa]; exact H104.oldReads (k := 6) rfl hrq) (stV_one _) (by omega) ?_)
                intro p105 c106 wq107 H108
                rw [Nat.zero_add] at H108 ⊢
                replace H108 : S wq107 [Rw 9 1 p105 q.l.length c106 (stV q.l), Rw 9 1 p97 r3.l.length c98 (stV (namesT tk r3.l)), Ob g (.cells #[.pointer none, .int .i64 0, .slice P nr C, (.map (some mg)), .int .i64 tn, .int .i64 til, .bool begun, .bool true, .bool false, .bool false] 64 (0, 0)), Rw 68 1 P nr C (rosV rows), RowsI 59 1 ptL rows, Fam 71 Tk.cells (adr rows) tk, Old w no] := H108
                refine l_of (s_val (v := .slice p105 q.l.length c106) (wt0 rfl) rfl rfl (x_assign rfl rfl) ?_)
                refine g_nil ?_
                refine g_then ?_
                refine g_weak [(7, .pointer (some ⟨g, 0, none⟩)), (26, .slice p97 r3.l.length c98), (27, .int .i64 0), (28, .slice p105 q.l.length c106), (155, .slice p n c), (156, .int .i64 ((n : Int))), (157, .int .i64 ((i3 : Int)))] ⟨rfl, rfl, rfl, rfl, rfl, rfl, rfl, trivial⟩ ?_
                refine g_seq ?_
                refine g_region ?_
                refine l_of (s_val (v := .int .i64 0) (wt0 rfl) rfl rfl (x_move rfl rfl) ?_)
                refine l_of (s_val (v := .bool (!decide ((0 : Int) = 0))) (wt0 rfl) rfl rfl (x_bin rfl rfl rfl b_neq) ?_)
                refine l_of (s_val (v := .bool (!decide ((0 : Int) = 0))) (wt0 rfl) rfl rfl (x_move rfl rfl) ?_)
                refine l_of (s_val (v := .slice p97 r3.l.length c98) (wt1 rfl rfl rfl rfl (nf rfl)) rfl rfl (x_move rfl rfl) ?_)
                refine l_of (s_call (wt1 rfl rfl rfl rfl (nf rfl)) (x_call' rfl rfl cl23) (ordered_s (namesT tk r3.l) p97 r3.l.length c98 (List.length_map ..) (by omega) (by omega) _ (H108.takes [1] (by decide))) ?_)
                rintro _ wq111 ⟨p109, c110, rfl, H112⟩
                replace H112 : S wq111 [Rw 9 1 p109 (ordS (namesT tk r3.l)).length c110 (stV (ordS (namesT tk r3.l))), Rw 9 1 p97 r3.l.length c98 (stV (sortS (namesT tk r3.l))), Rw 9 1 p105 q.l.length c106 (stV q.l), Ob g (.cells #[.pointer none, .int .i64 0, .slice P nr C, (.map (some mg)), .int .i64 tn, .int .i64 til, .bool begun, .bool true, .bool false, .bool false] 64 (0, 0)), Rw 68 1 P nr C (rosV rows), RowsI 59 1 ptL rows, Fam 71 Tk.cells (adr rows) tk, Old w no] := H108.absorbI (new := [Rw 9 1 p109 (ordS (namesT tk r3.l)).length c110 (stV (ordS (namesT tk r3.l))), Rw 9 1 p97 r3.l.length c98 (stV (sortS (namesT tk r3.l)))]) [1] H112
                refine b_ret rfl rfl ?_
                refine l_of (s_val (v := .slice p105 q.l.length c106) (wt1 rfl rfl rfl rfl (nf rfl)) rfl rfl (x_move rfl rfl) ?_)
                refine l_of (s_call (wt1 rfl rfl rfl rfl (nf rfl)) (x_call' rfl rfl cl23) (ordered_s q.l p105 q.l.length c106 rfl (by omega) (by omega) _ (H112.takes [2] (by decide))) ?_)
                rintro _ wq115 ⟨p113, c114, rfl, H116⟩
                replace H116 : S wq115 [Rw 9 1 p113 (ordS q.l).length c114 (stV (ordS q.l)), Rw 9 1 p105 q.l.length c106 (stV (sortS q.l)), Rw 9 1 p109 (ordS (namesT tk r3.l)).length c110 (stV (ordS (namesT tk r3.l))), Rw 9 1 p97 r3.l.length c98 (stV (sortS (namesT tk r3.l))), Ob g (.cells #[.pointer none, .int .i64 0, .slice P nr C, (.map (some mg)), .int .i64 tn, .int .i64 til, .bool begun, .bool true, .bool false, .bool false] 64 (0, 0)), Rw 68 1 P nr C (rosV rows), RowsI 59 1 ptL rows, Fam 71 Tk.cells (adr rows) tk, Old w no] := H112.absorbI (new := [Rw 9 1 p113 (ordS q.l).length c114 (stV (ordS q.l)), Rw 9 1 p105 q.l.length c106 (stV (sortS q.l))]) [2] H116
                refine b_ret rfl rfl ?_
                have hol1 := ordS_len (namesT tk r3.l)
                rw [show (namesT tk r3.l).length = r3.l.length from List.length_map ..] at hol1
                have hol2 := ordS_len q.l
                have hoe := ordS_same hperm
                refine l_of (s_call (wt1 rfl rfl rfl rfl (nf rfl)) (x_call' rfl rfl cl22) ((Calls.mono (same_s _ _ _ _ _ _ _ _ rfl rfl (by omega) (by omega) _ (H116.takes [2, 0] (by decide))) (fun e w9 h9 => (⟨h9.1.trans (by rw [decide_eq_true hoe]), h9.2⟩ : e = .returned (.bool true) ∧ _)))) ?_)
                rintro _ wq118 ⟨rfl, H119⟩
                replace H119 : S wq118 [Rw 9 1 p109 (ordS (namesT tk r3.l)).length c110 (stV (ordS (namesT tk r3.l))), Rw 9 1 p113 (ordS q.l).length c114 (stV (ordS q.l)), Rw 9 1 p105 q.l.length c106 (stV (sortS q.l)), Rw 9 1 p97 r3.l.length c98 (stV (sortS (namesT tk r3.l))), Ob g (.cells #[.pointer none, .int .i64 0, .slice P nr C, (.map (some mg)), .int .i64 tn, .int .i64 til, .bool begun, .bool true, .bool false, .bool false] 64 (0, 0)), Rw 68 1 P nr C (rosV rows), RowsI 59 1 ptL rows, Fam 71 Tk.cells (adr rows) tk, Old w no] := H116.absorbI (new := [Rw 9 1 p109 (ordS (namesT tk r3.l)).length c110 (stV (ordS (namesT tk r3.l))), Rw 9 1 p113 (ordS q.l).length c114 (stV (ordS q.l))]) [2, 0] H119
                refine b_ret rfl rfl ?_
                refine l_of (s_val (v := .bool false) (wt1 rfl rfl rfl rfl (nf rfl)) rfl rfl (x_not (b := true) rfl rfl) ?_)
                refine l_of (s_val (v := .bool false) (wt0 rfl) rfl rfl (x_pick_f rfl rfl (nf rfl) rfl) ?_)
                refine g_nil ?_
                refine g_then ?_
                refine g_weak [(7, .pointer (some ⟨g, 0, none⟩)), (155, .slice p n c), (156, .int .i64 ((n : Int))), (157, .int .i64 ((i3 : Int))), (180, .bool false)] ⟨rfl, rfl, rfl, rfl, rfl, trivial⟩ ?_
                refine g_cond_f rfl rfl ?_
                refine g_skip ?_
                refine g_in ?_
                refine g_then ?_
                refine g_region ?_
                refine l_of (s_val (v := .int .i64 (((i3 + 1 : Nat) : Int))) (wt0 rfl) rfl rfl (x_bin rfl rfl rfl (b_add (by rw [w64 (by omega)]; omega))) ?_)
                refine l_of (s_val (v := .int .i64 (((i3 + 1 : Nat) : Int))) (wt0 rfl) rfl rfl (x_move rfl rfl) ?_)
                refine g_nil ?_
                refine g_then ?_
                refine g_round (i := (i3)) ((i3 + 1)) ?_ ?_ ?_
                · exact ⟨rfl, rfl, rfl, rfl, trivial⟩
                · exact ⟨by omega, (H119.takes [4, 5, 6, 7, 8] (by decide))⟩
                · (try dsimp only); omega
            · skip
              refine g_cond_f rfl (decide_eq_false hb94) ?_
              refine g_exit ?_
              refine g_then_exit ?_
              refine g_then_exit ?_
              refine g_in_hit ?_
              refine g_then ?_
              refine g_seq ?_
              refine g_region ?_
              refine l_of (s_call (wt0 rfl) (x_call' rfl rfl cl8) (awake_s _) ?_)
              rintro _ wq120 ⟨rfl, H121⟩
              replace H121 : S wq120 [Ob g (.cells #[.pointer none, .int .i64 0, .slice P nr C, (.map (some mg)), .int .i64 tn, .int .i64 til, .bool begun, .bool true, .bool false, .bool false] 64 (0, 0)), Rw 68 1 P nr C (rosV rows), RowsI 59 1 ptL rows, Fam 71 Tk.cells (adr rows) tk, Old w no] := H93.absorb (new := []) H121
              refine b_ret rfl rfl ?_
              refine l_of (s_val (v := .bool true) (wt0 rfl) rfl rfl (x_assign rfl rfl) ?_)
              refine g_nil ?_
              refine g_then ?_
              refine g_ret ?_
              refine fin_ret [.tmp 6] [.bool true] rfl ⟨rfl, trivial⟩ ?_
              exact ⟨rfl, H121.mask [false, false, false, false, true]⟩
  · skip
    replace H2 : S wq1 [Old w no] := H0.absorb (new := []) H2
    refine b_ret rfl rfl ?_
    refine l_of (s_val (v := .bool true) (wt0 rfl) rfl rfl (x_not (b := false) rfl rfl) ?_)
    refine l_of (s_val (v := .bool true) (wt0 rfl) rfl rfl (x_move rfl rfl) ?_)
    refine l_of (s_not (wn1 rfl rfl rfl rfl rfl) rfl rfl ?_)
    refine l_of (s_not (wn1 rfl rfl rfl rfl rfl) rfl rfl ?_)
    refine l_of (s_not (wn1 rfl rfl rfl rfl rfl) rfl rfl ?_)
    refine l_of (s_val (v := .bool true) (wt0 rfl) rfl rfl (x_pick_t rfl rfl rfl rfl) ?_)
    refine l_of (s_val (v := .bool true) (wt0 rfl) rfl rfl (x_move rfl rfl) ?_)
    refine l_of (s_not (wn1 rfl rfl rfl rfl rfl) rfl rfl ?_)
    refine l_of (s_not (wn1 rfl rfl rfl rfl rfl) rfl rfl ?_)
    refine l_of (s_not (wn1 rfl rfl rfl rfl rfl) rfl rfl ?_)
    refine l_of (s_val (v := .bool true) (wt0 rfl) rfl rfl (x_pick_t rfl rfl rfl rfl) ?_)
    refine g_nil ?_
    refine g_then ?_
    refine g_weak [(0, .string seed), (1, .slice p n c), (2, .slice pe ne ce), (41, .bool true)] ⟨rfl, rfl, rfl, rfl, trivial⟩ ?_
    refine g_cond_t rfl rfl ?_
    refine g_seq ?_
    refine g_region ?_
    refine l_of (s_call (wt0 rfl) (x_call' rfl rfl cl8) (awake_s _) ?_)
    rintro _ wq122 ⟨rfl, H123⟩
    replace H123 : S wq122 [Old w no] := H2.absorb (new := []) H123
    refine b_ret rfl rfl ?_
    refine l_of (s_val (v := .bool true) (wt0 rfl) rfl rfl (x_assign rfl rfl) ?_)
    refine g_nil ?_
    refine g_then ?_
    refine g_ret ?_
    refine g_then_ret ?_
    refine fin_ret [.tmp 6] [.bool true] rfl ⟨rfl, trivial⟩ ?_
    exact ⟨rfl, H123.mask [true]⟩
end Go.Proofs.Ytibdlnjnomikjaa
