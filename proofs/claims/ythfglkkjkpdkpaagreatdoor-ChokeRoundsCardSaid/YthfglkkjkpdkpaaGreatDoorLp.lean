import Derived.Test.YthfglkkjkpdkpaaGreatDoorLi
set_option linter.unusedSimpArgs false
set_option linter.unusedVariables false
namespace Go.Proofs.YthfglkkjkpdkpaaGreatDoor
open Go.RowKit

noncomputable def ratedL (round slots : Int) (seed : ByteArray) (c : Rv → Rv → Int) (l : List Rv) : List Rv :=
  if round % 3 ≠ 2 ∨ ((srt Rv.zero c (l.filter qW)).length : Int) ≤ slots then (srt Rv.zero c (l.filter qW)).take (min (srt Rv.zero c (l.filter qW)).length slots.toNat)
  else fillL slots ((srt Rv.zero c (l.filter qW)).take (min (srt Rv.zero c (l.filter qW)).length (slots - 1).toNat)) (optL round seed l)
theorem S.staysAp {w wq : World} {X : Item} {p : Option Addr} {n c size : Nat} {xs : List Value} (hap : Apart w X p n c size xs) (H : S wq [X, Old w (fps [X])]) : ∀ w9, S w9 [(Big []), X, Old wq (fps [(Big []), X])] → Reads w9 p n c size xs := fun w9 h9 => by
  have e : fps [(Big []), X] = fps [X] := by
    funext k
    refine propext ⟨fun ⟨it, hm, hf⟩ => ?_, fun ⟨it, hm, hf⟩ => ⟨it, List.mem_cons_of_mem _ hm, hf⟩⟩
    rcases List.mem_cons.1 hm with rfl | hm
    · obtain ⟨it2, hm2, _⟩ := hf; cases hm2
    · exact ⟨it, hm, hf⟩
  rw [e] at h9
  exact hap w9 (H.absorbI (new := [X]) [0] (h9.takes [1, 2] (by decide)))
set_option maxRecDepth 20000 in
set_option maxHeartbeats 4000000 in
set_option maxRecDepth 20000 in
set_option maxHeartbeats 4000000 in
theorem rated_s (round slots : Int) (seed : ByteArray) (l : List Rv) (p : Option Addr) (n c : Nat) (hn2 : n ≤ 200) (hval : ∀ x ∈ l, validR x = true) (hsd : seed.size ≤ 200) (hrd : 0 ≤ round ∧ round ≤ 9223372036854775807) (hsl : 0 ≤ slots ∧ slots ≤ 100) (gf : Nat) (figf cagf : Array Value) (X : Item) (cc : Rv → Rv → Int) (D : Rv → Prop) (hf : FunC Tryz.prog gf figf cagf X (fun p : Rv × Rv => [p.1.v, p.2.v]) (fun p => .int .i64 (cc p.1 p.2)) (fun p => D p.1 ∧ D p.2)) (hDl : ∀ x ∈ l, D x)  (w : World) (HS : S w [X]) (hap : Apart w X p n c 10 (fl rvL l)) (hta : TabA w X) : Calls Tryz.prog 60 #[.agg #[.int .i64 round, .int .i64 slots, .string seed, .slice p n c], .func (.func gf) figf cagf] w fun e w' => ∃ p' c' Y, e = .returned (.slice p' (ratedL round slots seed cc l).length c') ∧ (∀ w9, S w9 [Y] → Reads w9 p' (ratedL round slots seed cc l).length c' 10 (fl rvL (ratedL round slots seed cc l))) ∧ S w' ([Y, X] ++ [Old w (fps [X])]) := by
  have H00 := HS.beginI
  have H0 : S w ([X, Old w (fps [X])]) := H00
  have hnl := (hap _ H0).lenL rvE
  have hle1 := srt_len Rv.zero cc (l.filter qW)
  have hle2 := List.length_filter_le qW l
  refine enter 33 Tryz.func60 rfl rfl rfl ?_
  refine g_weak [(0, .agg #[.int .i64 round, .int .i64 slots, .string seed, .slice p n c]), (1, .func (.func gf) figf cagf)] ⟨rfl, rfl, trivial⟩ ?_
  refine g_seq ?_
  refine g_region ?_
  refine l_of (s_box H0 (wt0 rfl) rfl rfl rfl rfl ?_)
  intro g1 wq2 H3
  refine l_of (s_val (v := .slice none 0 0) (wt0 rfl) rfl rfl (x_assign rfl rfl) ?_)
  refine g_nil ?_
  refine g_then ?_
  refine g_seq ?_
  refine g_region ?_
  refine l_of (s_val (v := .pointer (some ⟨g1, 3, none⟩)) (wt0 rfl) rfl rfl (x_fieldAddr rfl rfl fo62_3 rfl) ?_)
  refine l_of (s_val (v := .slice p n c) (wt0 rfl) rfl rfl (x_load1 H3 0 rfl rfl Tryz.underlying22 rfl rfl rfl) ?_)
  refine l_of (s_val (v := .func (.func gf) figf cagf) (wt0 rfl) rfl rfl (x_move rfl rfl) ?_)
  have H4 : S wq2 [(Big []), Ob g1 (.cells #[.int .i64 round, .int .i64 slots, .string seed, .slice p n c] 62 (0, 0)), X, Old w (fps [X])] := H3.addNil
  refine l_of (s_call (wt0 rfl) (x_call' rfl rfl cl38) (which_s l p n c (by omega) 39 #[] #[] (Big []) qW (fun _ => True) (wants_f _) gf figf cagf X cc D hf (fun _ _ => trivial) hDl _ (H4.takes [0, 2] (by decide)) (S.staysAp hap (H4.takes [2, 3] (by decide)))) ?_)
  rintro _ wq5 ⟨pw, cw, rfl, H6⟩
  replace H6 : S wq5 [Rw 30 10 pw ((srt Rv.zero cc (l.filter qW)).length) cw (fl rvL (srt Rv.zero cc (l.filter qW))), (Big []), X, Ob g1 (.cells #[.int .i64 round, .int .i64 slots, .string seed, .slice p n c] 62 (0, 0)), Old w (fps [X])] := H4.absorbI (new := [Rw 30 10 pw ((srt Rv.zero cc (l.filter qW)).length) cw (fl rvL (srt Rv.zero cc (l.filter qW))), (Big []), X]) [0, 2] H6
  refine b_ret rfl rfl ?_
  refine l_of (s_val (v := .slice pw ((srt Rv.zero cc (l.filter qW)).length) cw) (wt0 rfl) rfl rfl (x_assign rfl rfl) ?_)
  refine g_nil ?_
  refine g_then ?_
  refine g_seq ?_
  refine g_seq ?_
  refine g_region ?_
  refine l_of (s_val (v := .pointer (some ⟨g1, 0, none⟩)) (wt0 rfl) rfl rfl (x_fieldAddr rfl rfl fo62_0 rfl) ?_)
  refine l_of (s_val (v := .int .i64 round) (wt0 rfl) rfl rfl (x_load1 H6 3 rfl rfl Tryz.underlying3 rfl rfl rfl) ?_)
  refine l_of (s_val (v := .int .i64 (round % 3)) (wt0 rfl) rfl rfl (x_bin rfl rfl rfl (b_rem (by omega) (rem0 (by omega)))) ?_)
  refine l_of (s_val (v := .bool (!decide ((round % 3 : Int) = 2))) (wt0 rfl) rfl rfl (x_bin rfl rfl rfl b_neq) ?_)
  refine l_of (s_val (v := .bool (!decide ((round % 3 : Int) = 2))) (wt0 rfl) rfl rfl (x_move rfl rfl) ?_)
  by_cases hb7 : (round % 3 : Int) = 2
  · skip
    refine l_of (s_val (v := .slice pw ((srt Rv.zero cc (l.filter qW)).length) cw) (wt1 rfl rfl rfl rfl (nf hb7)) rfl rfl (x_move rfl rfl) ?_)
    refine l_of (s_val (v := .int .i64 (((srt Rv.zero cc (l.filter qW)).length : Int))) (wt1 rfl rfl rfl rfl (nf hb7)) rfl rfl (x_lenl rfl rfl Tryz.underlying22) ?_)
    refine l_of (s_val (v := .pointer (some ⟨g1, 1, none⟩)) (wt1 rfl rfl rfl rfl (nf hb7)) rfl rfl (x_fieldAddr rfl rfl fo62_1 rfl) ?_)
    refine l_of (s_val (v := .int .i64 slots) (wt1 rfl rfl rfl rfl (nf hb7)) rfl rfl (x_load1 H6 3 rfl rfl Tryz.underlying3 rfl rfl rfl) ?_)
    refine l_of (s_val (v := .bool (decide ((((srt Rv.zero cc (l.filter qW)).length : Int) : Int) ≤ slots))) (wt1 rfl rfl rfl rfl (nf hb7)) rfl rfl (x_bin rfl rfl rfl b_leq) ?_)
    refine l_of (s_val (v := .bool (decide ((((srt Rv.zero cc (l.filter qW)).length : Int) : Int) ≤ slots))) (wt0 rfl) rfl rfl (x_pick_f rfl rfl (nf hb7) rfl) ?_)
    refine g_nil ?_
    refine g_then ?_
    refine g_weak [(2, .pointer (some ⟨g1, 0, none⟩)), (5, .slice pw ((srt Rv.zero cc (l.filter qW)).length) cw), (20, .bool (decide ((((srt Rv.zero cc (l.filter qW)).length : Int) : Int) ≤ slots)))] ⟨rfl, rfl, rfl, trivial⟩ ?_
    by_cases hb8 : (((srt Rv.zero cc (l.filter qW)).length : Int) : Int) ≤ slots
    · skip
      refine g_cond_t rfl (decide_eq_true hb8) ?_
      refine g_seq ?_
      refine g_region ?_
      refine l_of (s_val (v := .slice pw ((srt Rv.zero cc (l.filter qW)).length) cw) (wt0 rfl) rfl rfl (x_move rfl rfl) ?_)
      refine l_of (s_val (v := .pointer (some ⟨g1, 1, none⟩)) (wt0 rfl) rfl rfl (x_fieldAddr rfl rfl fo62_1 rfl) ?_)
      refine l_of (s_val (v := .int .i64 slots) (wt0 rfl) rfl rfl (x_load1 H6 3 rfl rfl Tryz.underlying3 rfl rfl rfl) ?_)
      refine l_of (s_call (wt0 rfl) (x_call' rfl rfl cl58) (front_s (srt Rv.zero cc (l.filter qW)) pw ((srt Rv.zero cc (l.filter qW)).length) cw (by omega) slots _ (H6.rwReads (k := 0) rfl)) ?_)
      rintro _ wq9 ⟨rfl, H10⟩
      replace H10 : S wq9 [Rw 30 10 pw ((srt Rv.zero cc (l.filter qW)).length) cw (fl rvL (srt Rv.zero cc (l.filter qW))), (Big []), X, Ob g1 (.cells #[.int .i64 round, .int .i64 slots, .string seed, .slice p n c] 62 (0, 0)), Old w (fps [X])] := H6.absorb (new := []) H10
      refine b_ret rfl rfl ?_
      refine l_of (s_val (v := .slice pw (min (srt Rv.zero cc (l.filter qW)).length slots.toNat) cw) (wt0 rfl) rfl rfl (x_assign rfl rfl) ?_)
      refine g_nil ?_
      refine g_then ?_
      refine g_ret ?_
      refine g_then_ret ?_
      refine fin_ret [.tmp 4] [.slice pw (min (srt Rv.zero cc (l.filter qW)).length slots.toNat) cw] rfl ⟨rfl, trivial⟩ ?_
      have hR : (ratedL round slots seed cc l) = ((srt Rv.zero cc (l.filter qW)).take (min (srt Rv.zero cc (l.filter qW)).length slots.toNat)) := by unfold ratedL; rw [if_pos (by omega)]
      have hRl : ((srt Rv.zero cc (l.filter qW)).take (min (srt Rv.zero cc (l.filter qW)).length slots.toNat)).length = (min (srt Rv.zero cc (l.filter qW)).length slots.toNat) := by rw [List.length_take]; omega
      rw [hR]
      exact ⟨pw, cw, Rw 30 10 pw ((srt Rv.zero cc (l.filter qW)).length) cw (fl rvL (srt Rv.zero cc (l.filter qW))), by rw [hRl]; rfl, fun w9 h9 => by rw [hRl]; exact (h9.rwReads (k := 0) rfl).takeL rvE _ (Nat.min_le_left _ _), H10.takes [0, 2, 4] (by decide)⟩
    · skip
      refine g_cond_f rfl (decide_eq_false hb8) ?_
      refine g_skip ?_
      refine g_then ?_
      refine g_seq ?_
      refine g_anyY [] (fun wx => S wx [Ob g1 (.cells #[.int .i64 round, .int .i64 slots, .string seed, .slice p n c] 62 (0, 0))]) (fun wx => S wx [Ob g1 (.cells #[.int .i64 round, .int .i64 slots, .string seed, .slice p n c] 62 (0, 0))]) [] (by kernel_rfl) H6 (fun wq11 H12 => ?_)
      refine y_take (v := .agg #[.int .i64 round, .int .i64 slots, .string seed, .slice p n c]) 0 rfl (wt0 rfl) rfl rfl rfl (by kernel_rfl) (by kernel_rfl) (by kernel_rfl) (by kernel_rfl) (by kernel_rfl) (H12.mask [false, false, false, true, false]) (fun wx H => x_loadA H 0 rfl rfl Tryz.underlying62 rfl sz62 rfl rfl rfl) ?_
      refine y_pure (v := .slice pw ((srt Rv.zero cc (l.filter qW)).length) cw) 1 rfl (wt0 rfl) rfl rfl rfl (by kernel_rfl) (by kernel_rfl) (by kernel_rfl) (by kernel_rfl) (fun wx => x_move rfl rfl) ?_
      refine y_pure (v := .pointer (some ⟨g1, 1, none⟩)) 2 rfl (wt0 rfl) rfl rfl rfl (by kernel_rfl) (by kernel_rfl) (by kernel_rfl) (by kernel_rfl) (fun wx => x_fieldAddr rfl rfl fo62_1 rfl) ?_
      refine y_take (v := .int .i64 slots) 3 rfl (wt0 rfl) rfl rfl rfl (by kernel_rfl) (by kernel_rfl) (by kernel_rfl) (by kernel_rfl) (by kernel_rfl) (H12.mask [false, false, false, true, false]) (fun wx H => x_load1 H 0 rfl rfl Tryz.underlying3 rfl rfl rfl) ?_
      refine y_pure (v := .int .i64 (slots - 1)) 4 rfl (wt0 rfl) rfl rfl rfl (by kernel_rfl) (by kernel_rfl) (by kernel_rfl) (by kernel_rfl) (fun wx => x_bin rfl rfl rfl (b_sub (w64 (by omega)))) ?_
      refine y_one (i := 5) (by kernel_rfl) rfl ?_
      refine s_call (wt0 rfl) (x_call' rfl rfl cl58) (front_s (srt Rv.zero cc (l.filter qW)) pw ((srt Rv.zero cc (l.filter qW)).length) cw (by omega) (slots - 1) _ (H12.rwReads (k := 0) rfl)) ?_
      rintro _ wq13 ⟨rfl, H14⟩
      replace H14 : S wq13 [Rw 30 10 pw ((srt Rv.zero cc (l.filter qW)).length) cw (fl rvL (srt Rv.zero cc (l.filter qW))), (Big []), X, Ob g1 (.cells #[.int .i64 round, .int .i64 slots, .string seed, .slice p n c] 62 (0, 0)), Old w (fps [X])] := H12.absorb (new := []) H14
      refine b_ret rfl rfl ?_
      refine y_k (H14.mask [false, false, false, true, false]) (H14.mask [false, false, false, true, false]) ?_
      refine y_one (i := 6) (by kernel_rfl) rfl ?_
      have hct := List.length_take_le (min (srt Rv.zero cc (l.filter qW)).length (slots - 1).toNat) (srt Rv.zero cc (l.filter qW))
      refine s_call (wt0 rfl) (x_call' rfl rfl cl57) (clone_r ((srt Rv.zero cc (l.filter qW)).take (min (srt Rv.zero cc (l.filter qW)).length (slots - 1).toNat)) pw (min (srt Rv.zero cc (l.filter qW)).length (slots - 1).toNat) cw (by omega) _ ((H14.rwReads (k := 0) rfl).takeL rvE (min (srt Rv.zero cc (l.filter qW)).length (slots - 1).toNat) (Nat.min_le_left _ _))) ?_
      rintro _ wq15 ⟨pk1, ck1, rfl, H16⟩
      replace H16 : S wq15 [Rw 30 10 pk1 (((srt Rv.zero cc (l.filter qW)).take (min (srt Rv.zero cc (l.filter qW)).length (slots - 1).toNat)).length) ck1 (fl rvL ((srt Rv.zero cc (l.filter qW)).take (min (srt Rv.zero cc (l.filter qW)).length (slots - 1).toNat))), Rw 30 10 pw ((srt Rv.zero cc (l.filter qW)).length) cw (fl rvL (srt Rv.zero cc (l.filter qW))), (Big []), X, Ob g1 (.cells #[.int .i64 round, .int .i64 slots, .string seed, .slice p n c] 62 (0, 0)), Old w (fps [X])] := H14.absorb (new := [Rw 30 10 pk1 (((srt Rv.zero cc (l.filter qW)).take (min (srt Rv.zero cc (l.filter qW)).length (slots - 1).toNat)).length) ck1 (fl rvL ((srt Rv.zero cc (l.filter qW)).take (min (srt Rv.zero cc (l.filter qW)).length (slots - 1).toNat)))]) H16
      refine b_ret rfl rfl ?_
      refine y_k (H16.mask [false, false, false, false, true, false]) (H16.mask [false, false, false, false, true, false]) ?_
      refine y_one (i := 7) (by kernel_rfl) rfl ?_
      refine s_call (wt0 rfl) (x_call' rfl rfl cl56) (filled_s round slots seed hsd hrd l p n c (by omega) hval ((srt Rv.zero cc (l.filter qW)).take (min (srt Rv.zero cc (l.filter qW)).length (slots - 1).toNat)) pk1 ck1 (by omega) _ (H16.takes [0] (by decide)) (fun w9 h9 => hap _ ((H16.absorbI (new := [Rw 30 10 pk1 (((srt Rv.zero cc (l.filter qW)).take (min (srt Rv.zero cc (l.filter qW)).length (slots - 1).toNat)).length) ck1 (fl rvL ((srt Rv.zero cc (l.filter qW)).take (min (srt Rv.zero cc (l.filter qW)).length (slots - 1).toNat)))]) [0] h9).takes [3, 5] (by decide))) (fun w9 h9 => hta _ ((H16.absorbI (new := [Rw 30 10 pk1 (((srt Rv.zero cc (l.filter qW)).take (min (srt Rv.zero cc (l.filter qW)).length (slots - 1).toNat)).length) ck1 (fl rvL ((srt Rv.zero cc (l.filter qW)).take (min (srt Rv.zero cc (l.filter qW)).length (slots - 1).toNat)))]) [0] h9).takes [3, 5] (by decide)))) ?_
      rintro _ wq17 ⟨pf, cf, rfl, H18⟩
      replace H18 : S wq17 [Rw 30 10 pf ((fillL slots ((srt Rv.zero cc (l.filter qW)).take (min (srt Rv.zero cc (l.filter qW)).length (slots - 1).toNat)) (optL round seed l)).length) cf (fl rvL (fillL slots ((srt Rv.zero cc (l.filter qW)).take (min (srt Rv.zero cc (l.filter qW)).length (slots - 1).toNat)) (optL round seed l))), Rw 30 10 pw ((srt Rv.zero cc (l.filter qW)).length) cw (fl rvL (srt Rv.zero cc (l.filter qW))), (Big []), X, Ob g1 (.cells #[.int .i64 round, .int .i64 slots, .string seed, .slice p n c] 62 (0, 0)), Old w (fps [X])] := H16.absorbI (new := [Rw 30 10 pf ((fillL slots ((srt Rv.zero cc (l.filter qW)).take (min (srt Rv.zero cc (l.filter qW)).length (slots - 1).toNat)) (optL round seed l)).length) cf (fl rvL (fillL slots ((srt Rv.zero cc (l.filter qW)).take (min (srt Rv.zero cc (l.filter qW)).length (slots - 1).toNat)) (optL round seed l)))]) [0] H18
      refine b_ret rfl rfl ?_
      refine y_k (H18.mask [false, false, false, false, true, false]) (H18.mask [false, false, false, false, true, false]) ?_
      refine y_pure (v := .slice pf ((fillL slots ((srt Rv.zero cc (l.filter qW)).take (min (srt Rv.zero cc (l.filter qW)).length (slots - 1).toNat)) (optL round seed l)).length) cf) 8 rfl (wt0 rfl) rfl rfl rfl (by kernel_rfl) (by kernel_rfl) (by kernel_rfl) (by kernel_rfl) (fun wx => x_assign rfl rfl) ?_
      refine y_done (by kernel_rfl) ?_
      refine g_then ?_
      refine g_ret ?_
      refine fin_ret [.tmp 4] [.slice pf ((fillL slots ((srt Rv.zero cc (l.filter qW)).take (min (srt Rv.zero cc (l.filter qW)).length (slots - 1).toNat)) (optL round seed l)).length) cf] rfl ⟨rfl, trivial⟩ ?_
      have hR : (ratedL round slots seed cc l) = (fillL slots ((srt Rv.zero cc (l.filter qW)).take (min (srt Rv.zero cc (l.filter qW)).length (slots - 1).toNat)) (optL round seed l)) := by unfold ratedL; rw [if_neg (by omega)]
      rw [hR]
      exact ⟨pf, cf, Rw 30 10 pf ((fillL slots ((srt Rv.zero cc (l.filter qW)).take (min (srt Rv.zero cc (l.filter qW)).length (slots - 1).toNat)) (optL round seed l)).length) cf (fl rvL (fillL slots ((srt Rv.zero cc (l.filter qW)).take (min (srt Rv.zero cc (l.filter qW)).length (slots - 1).toNat)) (optL round seed l))), rfl, fun w9 h9 => h9.rwReads (k := 0) rfl, H18.takes [0, 3, 5] (by decide)⟩
  · skip
    refine l_of (s_not (wn1 rfl rfl rfl rfl (nt hb7)) rfl rfl ?_)
    refine l_of (s_not (wn1 rfl rfl rfl rfl (nt hb7)) rfl rfl ?_)
    refine l_of (s_not (wn1 rfl rfl rfl rfl (nt hb7)) rfl rfl ?_)
    refine l_of (s_not (wn1 rfl rfl rfl rfl (nt hb7)) rfl rfl ?_)
    refine l_of (s_not (wn1 rfl rfl rfl rfl (nt hb7)) rfl rfl ?_)
    refine l_of (s_val (v := .bool true) (wt0 rfl) rfl rfl (x_pick_t rfl rfl (nt hb7) rfl) ?_)
    refine g_nil ?_
    refine g_then ?_
    refine g_weak [(2, .pointer (some ⟨g1, 0, none⟩)), (5, .slice pw ((srt Rv.zero cc (l.filter qW)).length) cw), (20, .bool true)] ⟨rfl, rfl, rfl, trivial⟩ ?_
    refine g_cond_t rfl rfl ?_
    refine g_seq ?_
    refine g_region ?_
    refine l_of (s_val (v := .slice pw ((srt Rv.zero cc (l.filter qW)).length) cw) (wt0 rfl) rfl rfl (x_move rfl rfl) ?_)
    refine l_of (s_val (v := .pointer (some ⟨g1, 1, none⟩)) (wt0 rfl) rfl rfl (x_fieldAddr rfl rfl fo62_1 rfl) ?_)
    refine l_of (s_val (v := .int .i64 slots) (wt0 rfl) rfl rfl (x_load1 H6 3 rfl rfl Tryz.underlying3 rfl rfl rfl) ?_)
    refine l_of (s_call (wt0 rfl) (x_call' rfl rfl cl58) (front_s (srt Rv.zero cc (l.filter qW)) pw ((srt Rv.zero cc (l.filter qW)).length) cw (by omega) slots _ (H6.rwReads (k := 0) rfl)) ?_)
    rintro _ wq19 ⟨rfl, H20⟩
    replace H20 : S wq19 [Rw 30 10 pw ((srt Rv.zero cc (l.filter qW)).length) cw (fl rvL (srt Rv.zero cc (l.filter qW))), (Big []), X, Ob g1 (.cells #[.int .i64 round, .int .i64 slots, .string seed, .slice p n c] 62 (0, 0)), Old w (fps [X])] := H6.absorb (new := []) H20
    refine b_ret rfl rfl ?_
    refine l_of (s_val (v := .slice pw (min (srt Rv.zero cc (l.filter qW)).length slots.toNat) cw) (wt0 rfl) rfl rfl (x_assign rfl rfl) ?_)
    refine g_nil ?_
    refine g_then ?_
    refine g_ret ?_
    refine g_then_ret ?_
    refine fin_ret [.tmp 4] [.slice pw (min (srt Rv.zero cc (l.filter qW)).length slots.toNat) cw] rfl ⟨rfl, trivial⟩ ?_
    have hR : (ratedL round slots seed cc l) = ((srt Rv.zero cc (l.filter qW)).take (min (srt Rv.zero cc (l.filter qW)).length slots.toNat)) := by unfold ratedL; rw [if_pos (by omega)]
    have hRl : ((srt Rv.zero cc (l.filter qW)).take (min (srt Rv.zero cc (l.filter qW)).length slots.toNat)).length = (min (srt Rv.zero cc (l.filter qW)).length slots.toNat) := by rw [List.length_take]; omega
    rw [hR]
    exact ⟨pw, cw, Rw 30 10 pw ((srt Rv.zero cc (l.filter qW)).length) cw (fl rvL (srt Rv.zero cc (l.filter qW))), by rw [hRl]; rfl, fun w9 h9 => by rw [hRl]; exact (h9.rwReads (k := 0) rfl).takeL rvE _ (Nat.min_le_left _ _), H20.takes [0, 2, 4] (by decide)⟩
end Go.Proofs.YthfglkkjkpdkpaaGreatDoor
namespace Go.Proofs.YthfglkkjkpdkpaaGreatDoor
open Go.RowKit

theorem cl60 : callable Tryz.prog 60 = true := by kernel_rfl
def hfN (x : Rv) : Int := max (2 * (x.frm % 1001) - 1000) (-(2 * (x.frm % 1001) - 1000))
def c2 (x y : Rv) : Int := if y.to - x.to ≠ 0 then y.to - x.to else if x.since - y.since ≠ 0 then x.since - y.since else x.id - y.id
def c4 (x y : Rv) : Int := if hfN y - hfN x ≠ 0 then hfN y - hfN x else x.id - y.id
theorem hfN_in {x : Rv} (h : DV x) : 0 ≤ hfN x ∧ hfN x ≤ 1000 := by
  unfold DV at h; unfold hfN; omega
theorem frm_rem {x : Rv} (h : DV x) : Int.tmod x.frm 1001 = x.frm % 1001 := by
  unfold DV at h
  exact Int.tmod_eq_emod_of_nonneg h.2.1.1
set_option maxRecDepth 20000 in
set_option maxHeartbeats 4000000 in
set_option maxRecDepth 20000 in
set_option maxHeartbeats 4000000 in
theorem half_s (x : Rv) (hx : DV x)  (w : World) : Calls Tryz.prog 67 #[.agg #[.int .i64 (x.id), .bool x.intr, .bool x.chk, .int .i64 (x.frm), .int .i64 (x.to), .int .i64 (x.lt), .int .i64 (x.since), .bool x.snb, .bool x.now, .bool x.seed]] w fun e w' => e = .returned (.int .i64 (hfN x)) ∧ S w' [Old w no] := by
  have H0 := S.old w
  have hfr := frm_rem hx
  unfold DV at hx
  refine enter 13 Tryz.func67 rfl rfl rfl ?_
  refine g_weak [(0, .agg #[.int .i64 (x.id), .bool x.intr, .bool x.chk, .int .i64 (x.frm), .int .i64 (x.to), .int .i64 (x.lt), .int .i64 (x.since), .bool x.snb, .bool x.now, .bool x.seed])] ⟨rfl, trivial⟩ ?_
  refine g_seq ?_
  refine g_region ?_
  refine l_of (s_box H0 (wt0 rfl) rfl rfl rfl rfl ?_)
  intro g1 wq2 H3
  refine l_of (s_val (v := .int .i64 0) (wt0 rfl) rfl rfl (x_assign rfl rfl) ?_)
  refine g_nil ?_
  refine g_then ?_
  refine g_seq ?_
  refine g_region ?_
  refine l_of (s_val (v := .pointer (some ⟨g1, 3, none⟩)) (wt0 rfl) rfl rfl (x_fieldAddr rfl rfl fo30_3 rfl) ?_)
  refine l_of (s_val (v := .int .i64 (x.frm)) (wt0 rfl) rfl rfl (x_load1 H3 0 rfl rfl Tryz.underlying3 rfl rfl rfl) ?_)
  refine l_of (s_val (v := .int .i64 (x.frm % 1001)) (wt0 rfl) rfl rfl (x_bin rfl rfl rfl (b_rem (by omega) (rem0 (by omega)))) ?_)
  refine l_of (s_val (v := .int .i64 (2 * (x.frm % 1001))) (wt0 rfl) rfl rfl (x_bin rfl rfl rfl (b_mul (w64 (by omega)))) ?_)
  refine l_of (s_val (v := .int .i64 ((2 * (x.frm % 1001)) - 1000)) (wt0 rfl) rfl rfl (x_bin rfl rfl rfl (b_sub (w64 (by omega)))) ?_)
  refine l_of (s_val (v := .int .i64 ((2 * (x.frm % 1001)) - 1000)) (wt0 rfl) rfl rfl (x_assign rfl rfl) ?_)
  refine g_nil ?_
  refine g_then ?_
  refine g_seq ?_
  refine g_region ?_
  refine l_of (s_val (v := .int .i64 ((2 * (x.frm % 1001)) - 1000)) (wt0 rfl) rfl rfl (x_move rfl rfl) ?_)
  refine l_of (s_val (v := .int .i64 ((2 * (x.frm % 1001)) - 1000)) (wt0 rfl) rfl rfl (x_move rfl rfl) ?_)
  refine l_of (s_val (v := .int .i64 (0 - ((2 * (x.frm % 1001)) - 1000))) (wt0 rfl) rfl rfl (x_neg rfl rfl (w64 (by omega))) ?_)
  refine l_of (s_val (v := .int .i64 (max ((2 * (x.frm % 1001)) - 1000) (0 - ((2 * (x.frm % 1001)) - 1000)))) (wt0 rfl) rfl rfl (x_max rfl rfl rfl) ?_)
  refine l_of (s_val (v := .int .i64 (max ((2 * (x.frm % 1001)) - 1000) (0 - ((2 * (x.frm % 1001)) - 1000)))) (wt0 rfl) rfl rfl (x_assign rfl rfl) ?_)
  refine g_nil ?_
  refine g_then ?_
  refine g_weak [(2, .int .i64 (max ((2 * (x.frm % 1001)) - 1000) (0 - ((2 * (x.frm % 1001)) - 1000))))] ⟨rfl, trivial⟩ ?_
  refine g_ret ?_
  refine fin_ret [.tmp 2] [.int .i64 (max ((2 * (x.frm % 1001)) - 1000) (0 - ((2 * (x.frm % 1001)) - 1000)))] rfl ⟨rfl, trivial⟩ ?_
  exact ⟨by unfold hfN; rw [Int.zero_sub]; rfl, H3.mask [false, true]⟩
theorem half_f : FunC Tryz.prog 67 #[] #[] (Big []) (fun x : Rv => [x.v]) (fun x => .int .i64 (hfN x)) DV :=
  FunC.pure (by kernel_rfl) fun x hx w => half_s x hx w
set_option maxRecDepth 20000 in
set_option maxHeartbeats 4000000 in
set_option maxRecDepth 20000 in
set_option maxHeartbeats 4000000 in
theorem way2_s (round slots : Int) (seed : ByteArray) (l : List Rv) (p : Option Addr) (n c : Nat) (hn2 : n ≤ 200) (hval : ∀ x ∈ l, validR x = true) (hsd : seed.size ≤ 200) (hrd : 0 ≤ round ∧ round ≤ 9223372036854775807) (hsl : 0 ≤ slots ∧ slots ≤ 100)  (w : World) (hr : Reads w p n c 10 (fl rvL l)) (ht : PowTab w) : Calls Tryz.prog 59 #[.agg #[.int .i64 round, .int .i64 slots, .string seed, .slice p n c]] w fun e w' => ∃ p' c' Y, e = .returned (.slice p' (ratedL round slots seed c2 l).length c') ∧ (∀ w9, S w9 [Y] → Reads w9 p' (ratedL round slots seed c2 l).length c' 10 (fl rvL (ratedL round slots seed c2 l))) ∧ S w' ([Y] ++ [Old w no]) := by
  have H0 := S.old w
  have hnl := hr.lenL rvE
  refine enter 10 Tryz.func59 rfl rfl rfl ?_
  refine g_weak [(0, .agg #[.int .i64 round, .int .i64 slots, .string seed, .slice p n c])] ⟨rfl, trivial⟩ ?_
  refine g_seq ?_
  refine g_region ?_
  refine l_of (s_box H0 (wt0 rfl) rfl rfl rfl rfl ?_)
  intro g1 wq2 H3
  refine l_of (s_val (v := .slice none 0 0) (wt0 rfl) rfl rfl (x_assign rfl rfl) ?_)
  refine g_nil ?_
  refine g_then ?_
  refine g_seq ?_
  refine g_anyY [] (fun wx => S wx [Ob g1 (.cells #[.int .i64 round, .int .i64 slots, .string seed, .slice p n c] 62 (0, 0))]) (fun wx => S wx [Ob g1 (.cells #[.int .i64 round, .int .i64 slots, .string seed, .slice p n c] 62 (0, 0))]) [] (by kernel_rfl) H3 (fun wq4 H5 => ?_)
  refine y_take (v := .agg #[.int .i64 round, .int .i64 slots, .string seed, .slice p n c]) 0 rfl (wt0 rfl) rfl rfl rfl (by kernel_rfl) (by kernel_rfl) (by kernel_rfl) (by kernel_rfl) (by kernel_rfl) (H5.mask [true, false]) (fun wx H => x_loadA H 0 rfl rfl Tryz.underlying62 rfl sz62 rfl rfl rfl) ?_
  refine y_one (i := 1) (by kernel_rfl) rfl ?_
  refine s_call (wt0 rfl) (x_call' rfl rfl cl49) (more_s 61 #[] #[] _) ?_
  rintro _ wq7 ⟨bl6, rfl, H8⟩
  replace H8 : S wq7 [Ob bl6 (.cells #[.func (.func 61) #[] #[]] 77 (0, 0)), Ob g1 (.cells #[.int .i64 round, .int .i64 slots, .string seed, .slice p n c] 62 (0, 0)), Old w no] := H5.absorb (new := [Ob bl6 (.cells #[.func (.func 61) #[] #[]] 77 (0, 0))]) H8
  refine b_ret rfl rfl ?_
  refine y_k (H8.mask [false, true, false]) (H8.mask [false, true, false]) ?_
  refine y_one (i := 2) (by kernel_rfl) rfl ?_
  refine s_call (wt0 rfl) (x_call' rfl rfl cl53) (less_s 54 #[] #[] _) ?_
  rintro _ wq10 ⟨bl9, rfl, H11⟩
  replace H11 : S wq10 [Ob bl9 (.cells #[.func (.func 54) #[] #[]] 77 (0, 0)), Ob bl6 (.cells #[.func (.func 61) #[] #[]] 77 (0, 0)), Ob g1 (.cells #[.int .i64 round, .int .i64 slots, .string seed, .slice p n c] 62 (0, 0)), Old w no] := H8.absorb (new := [Ob bl9 (.cells #[.func (.func 54) #[] #[]] 77 (0, 0))]) H11
  refine b_ret rfl rfl ?_
  refine y_k (H11.mask [false, false, true, false]) (H11.mask [false, false, true, false]) ?_
  refine y_one (i := 3) (by kernel_rfl) rfl ?_
  refine s_call (wt0 rfl) (x_call' rfl rfl cl53) (less_s 55 #[] #[] _) ?_
  rintro _ wq13 ⟨bl12, rfl, H14⟩
  replace H14 : S wq13 [Ob bl12 (.cells #[.func (.func 55) #[] #[]] 77 (0, 0)), Ob bl9 (.cells #[.func (.func 54) #[] #[]] 77 (0, 0)), Ob bl6 (.cells #[.func (.func 61) #[] #[]] 77 (0, 0)), Ob g1 (.cells #[.int .i64 round, .int .i64 slots, .string seed, .slice p n c] 62 (0, 0)), Old w no] := H11.absorb (new := [Ob bl12 (.cells #[.func (.func 55) #[] #[]] 77 (0, 0))]) H14
  refine b_ret rfl rfl ?_
  refine y_k (H14.mask [false, false, false, true, false]) (H14.mask [false, false, false, true, false]) ?_
  refine y_one (i := 4) (by kernel_rfl) rfl ?_
  refine s_buildSlice H14 (wt0 rfl) rfl rfl rfl (vs := [.func (.func 83) #[] #[.pointer (some ⟨bl6, 0, none⟩)], .func (.func 85) #[] #[.pointer (some ⟨bl9, 0, none⟩)], .func (.func 85) #[] #[.pointer (some ⟨bl12, 0, none⟩)]]) rfl Tryz.underlying89 sz74 ze74 rfl rfl (cells := #[.func (.func 83) #[] #[.pointer (some ⟨bl6, 0, none⟩)], .func (.func 85) #[] #[.pointer (some ⟨bl9, 0, none⟩)], .func (.func 85) #[] #[.pointer (some ⟨bl12, 0, none⟩)]]) (by kernel_rfl) ?_
  intro g15 wq16 H17
  refine y_k (H17.mask [false, false, false, false, true, false]) (H17.mask [false, false, false, false, true, false]) ?_
  refine y_one (i := 5) (by kernel_rfl) rfl ?_
  refine s_call (wt0 rfl) (x_call' rfl rfl cl48) (by_s (some ⟨g15, 0, none⟩) 3 3 _) ?_
  rintro _ wq19 ⟨bl18, rfl, H20⟩
  replace H20 : S wq19 [Ob bl18 (.cells #[.slice (some ⟨g15, 0, none⟩) (3) (3)] 89 (0, 0)), Ob g15 (.cells #[.func (.func 83) #[] #[.pointer (some ⟨bl6, 0, none⟩)], .func (.func 85) #[] #[.pointer (some ⟨bl9, 0, none⟩)], .func (.func 85) #[] #[.pointer (some ⟨bl12, 0, none⟩)]] 74 (0, 0)), Ob bl12 (.cells #[.func (.func 55) #[] #[]] 77 (0, 0)), Ob bl9 (.cells #[.func (.func 54) #[] #[]] 77 (0, 0)), Ob bl6 (.cells #[.func (.func 61) #[] #[]] 77 (0, 0)), Ob g1 (.cells #[.int .i64 round, .int .i64 slots, .string seed, .slice p n c] 62 (0, 0)), Old w no] := H17.absorb (new := [Ob bl18 (.cells #[.slice (some ⟨g15, 0, none⟩) (3) (3)] 89 (0, 0))]) H20
  refine b_ret rfl rfl ?_
  refine y_k (H20.mask [false, false, false, false, false, true, false]) (H20.mask [false, false, false, false, false, true, false]) ?_
  refine y_one (i := 6) (by kernel_rfl) rfl ?_
  have H21 : S wq19 [(Big []), Ob bl18 (.cells #[.slice (some ⟨g15, 0, none⟩) (3) (3)] 89 (0, 0)), Ob g15 (.cells #[.func (.func 83) #[] #[.pointer (some ⟨bl6, 0, none⟩)], .func (.func 85) #[] #[.pointer (some ⟨bl9, 0, none⟩)], .func (.func 85) #[] #[.pointer (some ⟨bl12, 0, none⟩)]] 74 (0, 0)), Ob bl12 (.cells #[.func (.func 55) #[] #[]] 77 (0, 0)), Ob bl9 (.cells #[.func (.func 54) #[] #[]] 77 (0, 0)), Ob bl6 (.cells #[.func (.func 61) #[] #[]] 77 (0, 0)), Ob g1 (.cells #[.int .i64 round, .int .i64 slots, .string seed, .slice p n c] 62 (0, 0)), Old w no] := H20.addNil
  have H22 : S wq19 [(Big [Ob bl6 (.cells #[.func (.func 61) #[] #[]] 77 (0, 0)), (Big [])]), Ob bl18 (.cells #[.slice (some ⟨g15, 0, none⟩) (3) (3)] 89 (0, 0)), Ob g15 (.cells #[.func (.func 83) #[] #[.pointer (some ⟨bl6, 0, none⟩)], .func (.func 85) #[] #[.pointer (some ⟨bl9, 0, none⟩)], .func (.func 85) #[] #[.pointer (some ⟨bl12, 0, none⟩)]] 74 (0, 0)), Ob bl12 (.cells #[.func (.func 55) #[] #[]] 77 (0, 0)), Ob bl9 (.cells #[.func (.func 54) #[] #[]] 77 (0, 0)), Ob g1 (.cells #[.int .i64 round, .int .i64 slots, .string seed, .slice p n c] 62 (0, 0)), Old w no] := S.big (L := [Ob bl6 (.cells #[.func (.func 61) #[] #[]] 77 (0, 0)), (Big [])]) (H21.takes [5, 0, 1, 2, 3, 4, 6, 7] (by decide))
  have H23 : S wq19 [(Big []), (Big [Ob bl6 (.cells #[.func (.func 61) #[] #[]] 77 (0, 0)), (Big [])]), Ob bl18 (.cells #[.slice (some ⟨g15, 0, none⟩) (3) (3)] 89 (0, 0)), Ob g15 (.cells #[.func (.func 83) #[] #[.pointer (some ⟨bl6, 0, none⟩)], .func (.func 85) #[] #[.pointer (some ⟨bl9, 0, none⟩)], .func (.func 85) #[] #[.pointer (some ⟨bl12, 0, none⟩)]] 74 (0, 0)), Ob bl12 (.cells #[.func (.func 55) #[] #[]] 77 (0, 0)), Ob bl9 (.cells #[.func (.func 54) #[] #[]] 77 (0, 0)), Ob g1 (.cells #[.int .i64 round, .int .i64 slots, .string seed, .slice p n c] 62 (0, 0)), Old w no] := H22.addNil
  have H24 : S wq19 [(Big [Ob bl9 (.cells #[.func (.func 54) #[] #[]] 77 (0, 0)), (Big [])]), (Big [Ob bl6 (.cells #[.func (.func 61) #[] #[]] 77 (0, 0)), (Big [])]), Ob bl18 (.cells #[.slice (some ⟨g15, 0, none⟩) (3) (3)] 89 (0, 0)), Ob g15 (.cells #[.func (.func 83) #[] #[.pointer (some ⟨bl6, 0, none⟩)], .func (.func 85) #[] #[.pointer (some ⟨bl9, 0, none⟩)], .func (.func 85) #[] #[.pointer (some ⟨bl12, 0, none⟩)]] 74 (0, 0)), Ob bl12 (.cells #[.func (.func 55) #[] #[]] 77 (0, 0)), Ob g1 (.cells #[.int .i64 round, .int .i64 slots, .string seed, .slice p n c] 62 (0, 0)), Old w no] := S.big (L := [Ob bl9 (.cells #[.func (.func 54) #[] #[]] 77 (0, 0)), (Big [])]) (H23.takes [5, 0, 1, 2, 3, 4, 6, 7] (by decide))
  have H25 : S wq19 [(Big []), (Big [Ob bl9 (.cells #[.func (.func 54) #[] #[]] 77 (0, 0)), (Big [])]), (Big [Ob bl6 (.cells #[.func (.func 61) #[] #[]] 77 (0, 0)), (Big [])]), Ob bl18 (.cells #[.slice (some ⟨g15, 0, none⟩) (3) (3)] 89 (0, 0)), Ob g15 (.cells #[.func (.func 83) #[] #[.pointer (some ⟨bl6, 0, none⟩)], .func (.func 85) #[] #[.pointer (some ⟨bl9, 0, none⟩)], .func (.func 85) #[] #[.pointer (some ⟨bl12, 0, none⟩)]] 74 (0, 0)), Ob bl12 (.cells #[.func (.func 55) #[] #[]] 77 (0, 0)), Ob g1 (.cells #[.int .i64 round, .int .i64 slots, .string seed, .slice p n c] 62 (0, 0)), Old w no] := H24.addNil
  have H26 : S wq19 [(Big [Ob bl12 (.cells #[.func (.func 55) #[] #[]] 77 (0, 0)), (Big [])]), (Big [Ob bl9 (.cells #[.func (.func 54) #[] #[]] 77 (0, 0)), (Big [])]), (Big [Ob bl6 (.cells #[.func (.func 61) #[] #[]] 77 (0, 0)), (Big [])]), Ob bl18 (.cells #[.slice (some ⟨g15, 0, none⟩) (3) (3)] 89 (0, 0)), Ob g15 (.cells #[.func (.func 83) #[] #[.pointer (some ⟨bl6, 0, none⟩)], .func (.func 85) #[] #[.pointer (some ⟨bl9, 0, none⟩)], .func (.func 85) #[] #[.pointer (some ⟨bl12, 0, none⟩)]] 74 (0, 0)), Ob g1 (.cells #[.int .i64 round, .int .i64 slots, .string seed, .slice p n c] 62 (0, 0)), Old w no] := S.big (L := [Ob bl12 (.cells #[.func (.func 55) #[] #[]] 77 (0, 0)), (Big [])]) (H25.takes [5, 0, 1, 2, 3, 4, 6, 7] (by decide))
  have H27 : S wq19 [(Big [Ob bl18 (.cells #[.slice (some ⟨g15, 0, none⟩) (3) (3)] 89 (0, 0)), Ob g15 (.cells #[.func (.func 83) #[] #[.pointer (some ⟨bl6, 0, none⟩)], .func (.func 85) #[] #[.pointer (some ⟨bl9, 0, none⟩)], .func (.func 85) #[] #[.pointer (some ⟨bl12, 0, none⟩)]] 74 (0, 0)), (Big [Ob bl6 (.cells #[.func (.func 61) #[] #[]] 77 (0, 0)), (Big [])]), (Big [Ob bl9 (.cells #[.func (.func 54) #[] #[]] 77 (0, 0)), (Big [])]), (Big [Ob bl12 (.cells #[.func (.func 55) #[] #[]] 77 (0, 0)), (Big [])])]), Ob g1 (.cells #[.int .i64 round, .int .i64 slots, .string seed, .slice p n c] 62 (0, 0)), Old w no] := S.big (L := [Ob bl18 (.cells #[.slice (some ⟨g15, 0, none⟩) (3) (3)] 89 (0, 0)), Ob g15 (.cells #[.func (.func 83) #[] #[.pointer (some ⟨bl6, 0, none⟩)], .func (.func 85) #[] #[.pointer (some ⟨bl9, 0, none⟩)], .func (.func 85) #[] #[.pointer (some ⟨bl12, 0, none⟩)]] 74 (0, 0)), (Big [Ob bl6 (.cells #[.func (.func 61) #[] #[]] 77 (0, 0)), (Big [])]), (Big [Ob bl9 (.cells #[.func (.func 54) #[] #[]] 77 (0, 0)), (Big [])]), (Big [Ob bl12 (.cells #[.func (.func 55) #[] #[]] 77 (0, 0)), (Big [])])]) (H26.takes [3, 4, 2, 1, 0, 5, 6] (by decide))
  refine s_call (wt0 rfl) (x_call' rfl rfl cl60) (rated_s round slots seed l p n c hn2 hval hsd hrd hsl 82 #[] #[.pointer (some ⟨bl18, 0, none⟩)] (Big [Ob bl18 (.cells #[.slice (some ⟨g15, 0, none⟩) (3) (3)] 89 (0, 0)), Ob g15 (.cells #[.func (.func 83) #[] #[.pointer (some ⟨bl6, 0, none⟩)], .func (.func 85) #[] #[.pointer (some ⟨bl9, 0, none⟩)], .func (.func 85) #[] #[.pointer (some ⟨bl12, 0, none⟩)]] 74 (0, 0)), (Big [Ob bl6 (.cells #[.func (.func 61) #[] #[]] 77 (0, 0)), (Big [])]), (Big [Ob bl9 (.cells #[.func (.func 54) #[] #[]] 77 (0, 0)), (Big [])]), (Big [Ob bl12 (.cells #[.func (.func 55) #[] #[]] 77 (0, 0)), (Big [])])]) c2 DV (by1_3f bl18 g15 DV 83 #[] #[.pointer (some ⟨bl6, 0, none⟩)] (Big [Ob bl6 (.cells #[.func (.func 61) #[] #[]] 77 (0, 0)), (Big [])]) (fun x y : Rv => Rv.to y - Rv.to x) (more1_f bl6 61 #[] #[] (Big []) Rv.to DV (byTo_f DV) (fun x y h1 h2 => by unfold DV at h1 h2; omega)) 85 #[] #[.pointer (some ⟨bl9, 0, none⟩)] (Big [Ob bl9 (.cells #[.func (.func 54) #[] #[]] 77 (0, 0)), (Big [])]) (fun x y : Rv => Rv.since x - Rv.since y) (less1_f bl9 54 #[] #[] (Big []) Rv.since DV (bySince_f DV) (fun x y h1 h2 => by unfold DV at h1 h2; omega)) 85 #[] #[.pointer (some ⟨bl12, 0, none⟩)] (Big [Ob bl12 (.cells #[.func (.func 55) #[] #[]] 77 (0, 0)), (Big [])]) (fun x y : Rv => Rv.id x - Rv.id y) (less1_f bl12 55 #[] #[] (Big []) Rv.id DV (byID_f DV) (fun x y h1 h2 => by unfold DV at h1 h2; omega))) (fun x hx => validR_D (hval x hx)) _ (H27.takes [0] (by decide)) (H27.apartOld (i := 2) (k := 0) rfl rfl (by decide) hr (by decide) (fun _ _ _ h => h)) (H27.tabA (i := 2) (k := 0) rfl rfl (by decide) ht)) ?_
  rintro _ wq28 ⟨pY, cY, IY, rfl, hY, H29⟩
  replace H29 : S wq28 [IY, (Big [Ob bl18 (.cells #[.slice (some ⟨g15, 0, none⟩) (3) (3)] 89 (0, 0)), Ob g15 (.cells #[.func (.func 83) #[] #[.pointer (some ⟨bl6, 0, none⟩)], .func (.func 85) #[] #[.pointer (some ⟨bl9, 0, none⟩)], .func (.func 85) #[] #[.pointer (some ⟨bl12, 0, none⟩)]] 74 (0, 0)), (Big [Ob bl6 (.cells #[.func (.func 61) #[] #[]] 77 (0, 0)), (Big [])]), (Big [Ob bl9 (.cells #[.func (.func 54) #[] #[]] 77 (0, 0)), (Big [])]), (Big [Ob bl12 (.cells #[.func (.func 55) #[] #[]] 77 (0, 0)), (Big [])])]), Ob g1 (.cells #[.int .i64 round, .int .i64 slots, .string seed, .slice p n c] 62 (0, 0)), Old w no] := H27.absorbI (new := [IY, (Big [Ob bl18 (.cells #[.slice (some ⟨g15, 0, none⟩) (3) (3)] 89 (0, 0)), Ob g15 (.cells #[.func (.func 83) #[] #[.pointer (some ⟨bl6, 0, none⟩)], .func (.func 85) #[] #[.pointer (some ⟨bl9, 0, none⟩)], .func (.func 85) #[] #[.pointer (some ⟨bl12, 0, none⟩)]] 74 (0, 0)), (Big [Ob bl6 (.cells #[.func (.func 61) #[] #[]] 77 (0, 0)), (Big [])]), (Big [Ob bl9 (.cells #[.func (.func 54) #[] #[]] 77 (0, 0)), (Big [])]), (Big [Ob bl12 (.cells #[.func (.func 55) #[] #[]] 77 (0, 0)), (Big [])])])]) [0] H29
  have H30 : S wq28 [Ob bl18 (.cells #[.slice (some ⟨g15, 0, none⟩) (3) (3)] 89 (0, 0)), Ob g15 (.cells #[.func (.func 83) #[] #[.pointer (some ⟨bl6, 0, none⟩)], .func (.func 85) #[] #[.pointer (some ⟨bl9, 0, none⟩)], .func (.func 85) #[] #[.pointer (some ⟨bl12, 0, none⟩)]] 74 (0, 0)), (Big [Ob bl6 (.cells #[.func (.func 61) #[] #[]] 77 (0, 0)), (Big [])]), (Big [Ob bl9 (.cells #[.func (.func 54) #[] #[]] 77 (0, 0)), (Big [])]), (Big [Ob bl12 (.cells #[.func (.func 55) #[] #[]] 77 (0, 0)), (Big [])]), IY, Ob g1 (.cells #[.int .i64 round, .int .i64 slots, .string seed, .slice p n c] 62 (0, 0)), Old w no] := S.unbig (H29.takes [1, 0, 2, 3] (by decide))
  have H31 : S wq28 [Ob bl6 (.cells #[.func (.func 61) #[] #[]] 77 (0, 0)), (Big []), Ob bl18 (.cells #[.slice (some ⟨g15, 0, none⟩) (3) (3)] 89 (0, 0)), Ob g15 (.cells #[.func (.func 83) #[] #[.pointer (some ⟨bl6, 0, none⟩)], .func (.func 85) #[] #[.pointer (some ⟨bl9, 0, none⟩)], .func (.func 85) #[] #[.pointer (some ⟨bl12, 0, none⟩)]] 74 (0, 0)), (Big [Ob bl9 (.cells #[.func (.func 54) #[] #[]] 77 (0, 0)), (Big [])]), (Big [Ob bl12 (.cells #[.func (.func 55) #[] #[]] 77 (0, 0)), (Big [])]), IY, Ob g1 (.cells #[.int .i64 round, .int .i64 slots, .string seed, .slice p n c] 62 (0, 0)), Old w no] := S.unbig (H30.takes [2, 0, 1, 3, 4, 5, 6, 7] (by decide))
  have H32 : S wq28 [Ob bl9 (.cells #[.func (.func 54) #[] #[]] 77 (0, 0)), (Big []), Ob bl6 (.cells #[.func (.func 61) #[] #[]] 77 (0, 0)), (Big []), Ob bl18 (.cells #[.slice (some ⟨g15, 0, none⟩) (3) (3)] 89 (0, 0)), Ob g15 (.cells #[.func (.func 83) #[] #[.pointer (some ⟨bl6, 0, none⟩)], .func (.func 85) #[] #[.pointer (some ⟨bl9, 0, none⟩)], .func (.func 85) #[] #[.pointer (some ⟨bl12, 0, none⟩)]] 74 (0, 0)), (Big [Ob bl12 (.cells #[.func (.func 55) #[] #[]] 77 (0, 0)), (Big [])]), IY, Ob g1 (.cells #[.int .i64 round, .int .i64 slots, .string seed, .slice p n c] 62 (0, 0)), Old w no] := S.unbig (H31.takes [4, 0, 1, 2, 3, 5, 6, 7, 8] (by decide))
  have H33 : S wq28 [Ob bl12 (.cells #[.func (.func 55) #[] #[]] 77 (0, 0)), (Big []), Ob bl9 (.cells #[.func (.func 54) #[] #[]] 77 (0, 0)), (Big []), Ob bl6 (.cells #[.func (.func 61) #[] #[]] 77 (0, 0)), (Big []), Ob bl18 (.cells #[.slice (some ⟨g15, 0, none⟩) (3) (3)] 89 (0, 0)), Ob g15 (.cells #[.func (.func 83) #[] #[.pointer (some ⟨bl6, 0, none⟩)], .func (.func 85) #[] #[.pointer (some ⟨bl9, 0, none⟩)], .func (.func 85) #[] #[.pointer (some ⟨bl12, 0, none⟩)]] 74 (0, 0)), IY, Ob g1 (.cells #[.int .i64 round, .int .i64 slots, .string seed, .slice p n c] 62 (0, 0)), Old w no] := S.unbig (H32.takes [6, 0, 1, 2, 3, 4, 5, 7, 8, 9] (by decide))
  refine b_ret rfl rfl ?_
  refine y_k (H33.mask [false, false, false, false, false, false, false, false, false, true, false]) (H33.mask [false, false, false, false, false, false, false, false, false, true, false]) ?_
  refine y_pure (v := .slice pY ((ratedL round slots seed c2 l).length) cY) 7 rfl (wt0 rfl) rfl rfl rfl (by kernel_rfl) (by kernel_rfl) (by kernel_rfl) (by kernel_rfl) (fun wx => x_assign rfl rfl) ?_
  refine y_done (by kernel_rfl) ?_
  refine g_then ?_
  refine g_ret ?_
  refine fin_ret [.tmp 2] [.slice pY ((ratedL round slots seed c2 l).length) cY] rfl ⟨rfl, trivial⟩ ?_
  exact ⟨_, _, IY, rfl, hY, H33.takes [8, 10] (by decide)⟩
set_option maxRecDepth 20000 in
set_option maxHeartbeats 4000000 in
set_option maxRecDepth 20000 in
set_option maxHeartbeats 4000000 in
theorem way4_s (round slots : Int) (seed : ByteArray) (l : List Rv) (p : Option Addr) (n c : Nat) (hn2 : n ≤ 200) (hval : ∀ x ∈ l, validR x = true) (hsd : seed.size ≤ 200) (hrd : 0 ≤ round ∧ round ≤ 9223372036854775807) (hsl : 0 ≤ slots ∧ slots ≤ 100)  (w : World) (hr : Reads w p n c 10 (fl rvL l)) (ht : PowTab w) : Calls Tryz.prog 66 #[.agg #[.int .i64 round, .int .i64 slots, .string seed, .slice p n c]] w fun e w' => ∃ p' c' Y, e = .returned (.slice p' (ratedL round slots seed c4 l).length c') ∧ (∀ w9, S w9 [Y] → Reads w9 p' (ratedL round slots seed c4 l).length c' 10 (fl rvL (ratedL round slots seed c4 l))) ∧ S w' ([Y] ++ [Old w no]) := by
  have H0 := S.old w
  have hnl := hr.lenL rvE
  refine enter 9 Tryz.func66 rfl rfl rfl ?_
  refine g_weak [(0, .agg #[.int .i64 round, .int .i64 slots, .string seed, .slice p n c])] ⟨rfl, trivial⟩ ?_
  refine g_seq ?_
  refine g_region ?_
  refine l_of (s_box H0 (wt0 rfl) rfl rfl rfl rfl ?_)
  intro g1 wq2 H3
  refine l_of (s_val (v := .slice none 0 0) (wt0 rfl) rfl rfl (x_assign rfl rfl) ?_)
  refine g_nil ?_
  refine g_then ?_
  refine g_seq ?_
  refine g_anyY [] (fun wx => S wx [Ob g1 (.cells #[.int .i64 round, .int .i64 slots, .string seed, .slice p n c] 62 (0, 0))]) (fun wx => S wx [Ob g1 (.cells #[.int .i64 round, .int .i64 slots, .string seed, .slice p n c] 62 (0, 0))]) [] (by kernel_rfl) H3 (fun wq4 H5 => ?_)
  refine y_take (v := .agg #[.int .i64 round, .int .i64 slots, .string seed, .slice p n c]) 0 rfl (wt0 rfl) rfl rfl rfl (by kernel_rfl) (by kernel_rfl) (by kernel_rfl) (by kernel_rfl) (by kernel_rfl) (H5.mask [true, false]) (fun wx H => x_loadA H 0 rfl rfl Tryz.underlying62 rfl sz62 rfl rfl rfl) ?_
  refine y_one (i := 1) (by kernel_rfl) rfl ?_
  refine s_call (wt0 rfl) (x_call' rfl rfl cl49) (more_s 67 #[] #[] _) ?_
  rintro _ wq7 ⟨bl6, rfl, H8⟩
  replace H8 : S wq7 [Ob bl6 (.cells #[.func (.func 67) #[] #[]] 77 (0, 0)), Ob g1 (.cells #[.int .i64 round, .int .i64 slots, .string seed, .slice p n c] 62 (0, 0)), Old w no] := H5.absorb (new := [Ob bl6 (.cells #[.func (.func 67) #[] #[]] 77 (0, 0))]) H8
  refine b_ret rfl rfl ?_
  refine y_k (H8.mask [false, true, false]) (H8.mask [false, true, false]) ?_
  refine y_one (i := 2) (by kernel_rfl) rfl ?_
  refine s_call (wt0 rfl) (x_call' rfl rfl cl53) (less_s 55 #[] #[] _) ?_
  rintro _ wq10 ⟨bl9, rfl, H11⟩
  replace H11 : S wq10 [Ob bl9 (.cells #[.func (.func 55) #[] #[]] 77 (0, 0)), Ob bl6 (.cells #[.func (.func 67) #[] #[]] 77 (0, 0)), Ob g1 (.cells #[.int .i64 round, .int .i64 slots, .string seed, .slice p n c] 62 (0, 0)), Old w no] := H8.absorb (new := [Ob bl9 (.cells #[.func (.func 55) #[] #[]] 77 (0, 0))]) H11
  refine b_ret rfl rfl ?_
  refine y_k (H11.mask [false, false, true, false]) (H11.mask [false, false, true, false]) ?_
  refine y_one (i := 3) (by kernel_rfl) rfl ?_
  refine s_buildSlice H11 (wt0 rfl) rfl rfl rfl (vs := [.func (.func 83) #[] #[.pointer (some ⟨bl6, 0, none⟩)], .func (.func 85) #[] #[.pointer (some ⟨bl9, 0, none⟩)]]) rfl Tryz.underlying89 sz74 ze74 rfl rfl (cells := #[.func (.func 83) #[] #[.pointer (some ⟨bl6, 0, none⟩)], .func (.func 85) #[] #[.pointer (some ⟨bl9, 0, none⟩)]]) (by kernel_rfl) ?_
  intro g12 wq13 H14
  refine y_k (H14.mask [false, false, false, true, false]) (H14.mask [false, false, false, true, false]) ?_
  refine y_one (i := 4) (by kernel_rfl) rfl ?_
  refine s_call (wt0 rfl) (x_call' rfl rfl cl48) (by_s (some ⟨g12, 0, none⟩) 2 2 _) ?_
  rintro _ wq16 ⟨bl15, rfl, H17⟩
  replace H17 : S wq16 [Ob bl15 (.cells #[.slice (some ⟨g12, 0, none⟩) (2) (2)] 89 (0, 0)), Ob g12 (.cells #[.func (.func 83) #[] #[.pointer (some ⟨bl6, 0, none⟩)], .func (.func 85) #[] #[.pointer (some ⟨bl9, 0, none⟩)]] 74 (0, 0)), Ob bl9 (.cells #[.func (.func 55) #[] #[]] 77 (0, 0)), Ob bl6 (.cells #[.func (.func 67) #[] #[]] 77 (0, 0)), Ob g1 (.cells #[.int .i64 round, .int .i64 slots, .string seed, .slice p n c] 62 (0, 0)), Old w no] := H14.absorb (new := [Ob bl15 (.cells #[.slice (some ⟨g12, 0, none⟩) (2) (2)] 89 (0, 0))]) H17
  refine b_ret rfl rfl ?_
  refine y_k (H17.mask [false, false, false, false, true, false]) (H17.mask [false, false, false, false, true, false]) ?_
  refine y_one (i := 5) (by kernel_rfl) rfl ?_
  have H18 : S wq16 [(Big []), Ob bl15 (.cells #[.slice (some ⟨g12, 0, none⟩) (2) (2)] 89 (0, 0)), Ob g12 (.cells #[.func (.func 83) #[] #[.pointer (some ⟨bl6, 0, none⟩)], .func (.func 85) #[] #[.pointer (some ⟨bl9, 0, none⟩)]] 74 (0, 0)), Ob bl9 (.cells #[.func (.func 55) #[] #[]] 77 (0, 0)), Ob bl6 (.cells #[.func (.func 67) #[] #[]] 77 (0, 0)), Ob g1 (.cells #[.int .i64 round, .int .i64 slots, .string seed, .slice p n c] 62 (0, 0)), Old w no] := H17.addNil
  have H19 : S wq16 [(Big [Ob bl6 (.cells #[.func (.func 67) #[] #[]] 77 (0, 0)), (Big [])]), Ob bl15 (.cells #[.slice (some ⟨g12, 0, none⟩) (2) (2)] 89 (0, 0)), Ob g12 (.cells #[.func (.func 83) #[] #[.pointer (some ⟨bl6, 0, none⟩)], .func (.func 85) #[] #[.pointer (some ⟨bl9, 0, none⟩)]] 74 (0, 0)), Ob bl9 (.cells #[.func (.func 55) #[] #[]] 77 (0, 0)), Ob g1 (.cells #[.int .i64 round, .int .i64 slots, .string seed, .slice p n c] 62 (0, 0)), Old w no] := S.big (L := [Ob bl6 (.cells #[.func (.func 67) #[] #[]] 77 (0, 0)), (Big [])]) (H18.takes [4, 0, 1, 2, 3, 5, 6] (by decide))
  have H20 : S wq16 [(Big []), (Big [Ob bl6 (.cells #[.func (.func 67) #[] #[]] 77 (0, 0)), (Big [])]), Ob bl15 (.cells #[.slice (some ⟨g12, 0, none⟩) (2) (2)] 89 (0, 0)), Ob g12 (.cells #[.func (.func 83) #[] #[.pointer (some ⟨bl6, 0, none⟩)], .func (.func 85) #[] #[.pointer (some ⟨bl9, 0, none⟩)]] 74 (0, 0)), Ob bl9 (.cells #[.func (.func 55) #[] #[]] 77 (0, 0)), Ob g1 (.cells #[.int .i64 round, .int .i64 slots, .string seed, .slice p n c] 62 (0, 0)), Old w no] := H19.addNil
  have H21 : S wq16 [(Big [Ob bl9 (.cells #[.func (.func 55) #[] #[]] 77 (0, 0)), (Big [])]), (Big [Ob bl6 (.cells #[.func (.func 67) #[] #[]] 77 (0, 0)), (Big [])]), Ob bl15 (.cells #[.slice (some ⟨g12, 0, none⟩) (2) (2)] 89 (0, 0)), Ob g12 (.cells #[.func (.func 83) #[] #[.pointer (some ⟨bl6, 0, none⟩)], .func (.func 85) #[] #[.pointer (some ⟨bl9, 0, none⟩)]] 74 (0, 0)), Ob g1 (.cells #[.int .i64 round, .int .i64 slots, .string seed, .slice p n c] 62 (0, 0)), Old w no] := S.big (L := [Ob bl9 (.cells #[.func (.func 55) #[] #[]] 77 (0, 0)), (Big [])]) (H20.takes [4, 0, 1, 2, 3, 5, 6] (by decide))
  have H22 : S wq16 [(Big [Ob bl15 (.cells #[.slice (some ⟨g12, 0, none⟩) (2) (2)] 89 (0, 0)), Ob g12 (.cells #[.func (.func 83) #[] #[.pointer (some ⟨bl6, 0, none⟩)], .func (.func 85) #[] #[.pointer (some ⟨bl9, 0, none⟩)]] 74 (0, 0)), (Big [Ob bl6 (.cells #[.func (.func 67) #[] #[]] 77 (0, 0)), (Big [])]), (Big [Ob bl9 (.cells #[.func (.func 55) #[] #[]] 77 (0, 0)), (Big [])])]), Ob g1 (.cells #[.int .i64 round, .int .i64 slots, .string seed, .slice p n c] 62 (0, 0)), Old w no] := S.big (L := [Ob bl15 (.cells #[.slice (some ⟨g12, 0, none⟩) (2) (2)] 89 (0, 0)), Ob g12 (.cells #[.func (.func 83) #[] #[.pointer (some ⟨bl6, 0, none⟩)], .func (.func 85) #[] #[.pointer (some ⟨bl9, 0, none⟩)]] 74 (0, 0)), (Big [Ob bl6 (.cells #[.func (.func 67) #[] #[]] 77 (0, 0)), (Big [])]), (Big [Ob bl9 (.cells #[.func (.func 55) #[] #[]] 77 (0, 0)), (Big [])])]) (H21.takes [2, 3, 1, 0, 4, 5] (by decide))
  refine s_call (wt0 rfl) (x_call' rfl rfl cl60) (rated_s round slots seed l p n c hn2 hval hsd hrd hsl 82 #[] #[.pointer (some ⟨bl15, 0, none⟩)] (Big [Ob bl15 (.cells #[.slice (some ⟨g12, 0, none⟩) (2) (2)] 89 (0, 0)), Ob g12 (.cells #[.func (.func 83) #[] #[.pointer (some ⟨bl6, 0, none⟩)], .func (.func 85) #[] #[.pointer (some ⟨bl9, 0, none⟩)]] 74 (0, 0)), (Big [Ob bl6 (.cells #[.func (.func 67) #[] #[]] 77 (0, 0)), (Big [])]), (Big [Ob bl9 (.cells #[.func (.func 55) #[] #[]] 77 (0, 0)), (Big [])])]) c4 DV (by1_2f bl15 g12 DV 83 #[] #[.pointer (some ⟨bl6, 0, none⟩)] (Big [Ob bl6 (.cells #[.func (.func 67) #[] #[]] 77 (0, 0)), (Big [])]) (fun x y : Rv => hfN y - hfN x) (more1_f bl6 67 #[] #[] (Big []) hfN DV half_f (fun x y h1 h2 => by have h3 := hfN_in h1; have h4 := hfN_in h2; omega)) 85 #[] #[.pointer (some ⟨bl9, 0, none⟩)] (Big [Ob bl9 (.cells #[.func (.func 55) #[] #[]] 77 (0, 0)), (Big [])]) (fun x y : Rv => Rv.id x - Rv.id y) (less1_f bl9 55 #[] #[] (Big []) Rv.id DV (byID_f DV) (fun x y h1 h2 => by unfold DV at h1 h2; omega))) (fun x hx => validR_D (hval x hx)) _ (H22.takes [0] (by decide)) (H22.apartOld (i := 2) (k := 0) rfl rfl (by decide) hr (by decide) (fun _ _ _ h => h)) (H22.tabA (i := 2) (k := 0) rfl rfl (by decide) ht)) ?_
  rintro _ wq23 ⟨pY, cY, IY, rfl, hY, H24⟩
  replace H24 : S wq23 [IY, (Big [Ob bl15 (.cells #[.slice (some ⟨g12, 0, none⟩) (2) (2)] 89 (0, 0)), Ob g12 (.cells #[.func (.func 83) #[] #[.pointer (some ⟨bl6, 0, none⟩)], .func (.func 85) #[] #[.pointer (some ⟨bl9, 0, none⟩)]] 74 (0, 0)), (Big [Ob bl6 (.cells #[.func (.func 67) #[] #[]] 77 (0, 0)), (Big [])]), (Big [Ob bl9 (.cells #[.func (.func 55) #[] #[]] 77 (0, 0)), (Big [])])]), Ob g1 (.cells #[.int .i64 round, .int .i64 slots, .string seed, .slice p n c] 62 (0, 0)), Old w no] := H22.absorbI (new := [IY, (Big [Ob bl15 (.cells #[.slice (some ⟨g12, 0, none⟩) (2) (2)] 89 (0, 0)), Ob g12 (.cells #[.func (.func 83) #[] #[.pointer (some ⟨bl6, 0, none⟩)], .func (.func 85) #[] #[.pointer (some ⟨bl9, 0, none⟩)]] 74 (0, 0)), (Big [Ob bl6 (.cells #[.func (.func 67) #[] #[]] 77 (0, 0)), (Big [])]), (Big [Ob bl9 (.cells #[.func (.func 55) #[] #[]] 77 (0, 0)), (Big [])])])]) [0] H24
  have H25 : S wq23 [Ob bl15 (.cells #[.slice (some ⟨g12, 0, none⟩) (2) (2)] 89 (0, 0)), Ob g12 (.cells #[.func (.func 83) #[] #[.pointer (some ⟨bl6, 0, none⟩)], .func (.func 85) #[] #[.pointer (some ⟨bl9, 0, none⟩)]] 74 (0, 0)), (Big [Ob bl6 (.cells #[.func (.func 67) #[] #[]] 77 (0, 0)), (Big [])]), (Big [Ob bl9 (.cells #[.func (.func 55) #[] #[]] 77 (0, 0)), (Big [])]), IY, Ob g1 (.cells #[.int .i64 round, .int .i64 slots, .string seed, .slice p n c] 62 (0, 0)), Old w no] := S.unbig (H24.takes [1, 0, 2, 3] (by decide))
  have H26 : S wq23 [Ob bl6 (.cells #[.func (.func 67) #[] #[]] 77 (0, 0)), (Big []), Ob bl15 (.cells #[.slice (some ⟨g12, 0, none⟩) (2) (2)] 89 (0, 0)), Ob g12 (.cells #[.func (.func 83) #[] #[.pointer (some ⟨bl6, 0, none⟩)], .func (.func 85) #[] #[.pointer (some ⟨bl9, 0, none⟩)]] 74 (0, 0)), (Big [Ob bl9 (.cells #[.func (.func 55) #[] #[]] 77 (0, 0)), (Big [])]), IY, Ob g1 (.cells #[.int .i64 round, .int .i64 slots, .string seed, .slice p n c] 62 (0, 0)), Old w no] := S.unbig (H25.takes [2, 0, 1, 3, 4, 5, 6] (by decide))
  have H27 : S wq23 [Ob bl9 (.cells #[.func (.func 55) #[] #[]] 77 (0, 0)), (Big []), Ob bl6 (.cells #[.func (.func 67) #[] #[]] 77 (0, 0)), (Big []), Ob bl15 (.cells #[.slice (some ⟨g12, 0, none⟩) (2) (2)] 89 (0, 0)), Ob g12 (.cells #[.func (.func 83) #[] #[.pointer (some ⟨bl6, 0, none⟩)], .func (.func 85) #[] #[.pointer (some ⟨bl9, 0, none⟩)]] 74 (0, 0)), IY, Ob g1 (.cells #[.int .i64 round, .int .i64 slots, .string seed, .slice p n c] 62 (0, 0)), Old w no] := S.unbig (H26.takes [4, 0, 1, 2, 3, 5, 6, 7] (by decide))
  refine b_ret rfl rfl ?_
  refine y_k (H27.mask [false, false, false, false, false, false, false, true, false]) (H27.mask [false, false, false, false, false, false, false, true, false]) ?_
  refine y_pure (v := .slice pY ((ratedL round slots seed c4 l).length) cY) 6 rfl (wt0 rfl) rfl rfl rfl (by kernel_rfl) (by kernel_rfl) (by kernel_rfl) (by kernel_rfl) (fun wx => x_assign rfl rfl) ?_
  refine y_done (by kernel_rfl) ?_
  refine g_then ?_
  refine g_ret ?_
  refine fin_ret [.tmp 2] [.slice pY ((ratedL round slots seed c4 l).length) cY] rfl ⟨rfl, trivial⟩ ?_
  exact ⟨_, _, IY, rfl, hY, H27.takes [6, 8] (by decide)⟩
end Go.Proofs.YthfglkkjkpdkpaaGreatDoor
