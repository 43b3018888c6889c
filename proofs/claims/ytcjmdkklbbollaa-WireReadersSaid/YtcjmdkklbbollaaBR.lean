import Derived.Test.YtcjmdkklbbollaaBRA
set_option linter.unusedSimpArgs false
set_option linter.unusedVariables false
namespace Go.Proofs.Ytcjmdkklbbollaa
open Go.RowKit

theorem cl10 : callable Try.prog 10 = true := by kernel_rfl
theorem cl32 : callable Try.prog 32 = true := by kernel_rfl
theorem cl33 : callable Try.prog 33 = true := by kernel_rfl
theorem cl34 : callable Try.prog 34 = true := by kernel_rfl
theorem cl35 : callable Try.prog 35 = true := by kernel_rfl
theorem cl36 : callable Try.prog 36 = true := by kernel_rfl
theorem cl37 : callable Try.prog 37 = true := by kernel_rfl
theorem cl39 : callable Try.prog 39 = true := by kernel_rfl
theorem cl40 : callable Try.prog 40 = true := by kernel_rfl
theorem cl41 : callable Try.prog 41 = true := by kernel_rfl
theorem cl42 : callable Try.prog 42 = true := by kernel_rfl
theorem cl43 : callable Try.prog 43 = true := by kernel_rfl
theorem cl44 : callable Try.prog 44 = true := by kernel_rfl
theorem fo57_0 : foO Try.prog 57 0 = some 0 := by kernel_rfl
theorem fo57_1 : foO Try.prog 57 1 = some 1 := by kernel_rfl
theorem sz57 : szO Try.prog 57 = some 2 := by kernel_rfl
theorem ze57 : zeO Try.prog 57 = some (.agg #[.string (⟨#[]⟩), .int .i64 0]) := by kernel_rfl
set_option maxRecDepth 20000 in
set_option maxHeartbeats 4000000 in
set_option maxRecDepth 20000 in
set_option maxHeartbeats 8000000 in
theorem readers_law (g : Bool) (p : Option Addr) (n c : Nat) (l : List De) (hn : n = l.length) (hn6 : n ≤ 9223372036854775807) (w : World) (hr : Reads w p n c 2 (desV l)) : Calls Try.prog 8 #[.bool g, .slice p n c] w fun e w' => e = .returned (.bool true) ∧ Sub w w' := by
  have H0 := S.old w
  refine enter 127 Try.func8 rfl rfl rfl ?_
  refine g_weak [(0, .bool g), (1, .slice p n c)] ⟨rfl, rfl, trivial⟩ ?_
  refine g_seq ?_
  refine g_region ?_
  refine l_of (s_val (v := .bool false) (wt0 rfl) rfl rfl (x_assign rfl rfl) ?_)
  refine g_nil ?_
  refine g_then ?_
  refine g_seq ?_
  refine g_region ?_
  refine l_of (s_val (v := .int .i64 0) (wt0 rfl) rfl rfl (x_assign rfl rfl) ?_)
  refine g_nil ?_
  refine g_then ?_
  refine g_seq ?_
  refine g_seq ?_
  refine g_region ?_
  refine l_of (s_val (v := .slice p n c) (wt0 rfl) rfl rfl (x_move rfl rfl) ?_)
  refine l_of (s_val (v := .int .i64 ((n : Int))) (wt0 rfl) rfl rfl (x_lenl rfl rfl Try.underlying55) ?_)
  refine l_of (s_val (v := .int .i64 0) (wt0 rfl) rfl rfl (x_move rfl rfl) ?_)
  refine g_nil ?_
  refine g_then ?_
  refine g_block ?_
  refine g_loop (ι := Nat × Int) (fun (i, nn) => [(0, .bool g), (1, .slice p n c), (5, .int .i64 nn), (20, .slice p n c), (21, .int .i64 ((n : Int))), (22, .int .i64 ((i : Int)))]) (fun (i, nn) wx => (i ≤ n) ∧ S wx [Old w no]) (fun (i, nn) => n - i) (0, 0) ⟨rfl, rfl, rfl, rfl, rfl, rfl, trivial⟩ ⟨Nat.zero_le _, H0⟩ ?_
  rintro ⟨i, nn⟩ wq1 ⟨hi, H2⟩
  replace H2 : S wq1 [Old w no] := H2
  refine g_weak [(0, .bool g), (1, .slice p n c), (5, .int .i64 nn), (20, .slice p n c), (21, .int .i64 ((n : Int))), (22, .int .i64 ((i : Int)))] ⟨rfl, rfl, rfl, rfl, rfl, rfl, trivial⟩ ?_
  refine g_seq ?_
  refine g_region ?_
  refine l_of (s_val (v := .bool (decide (((i : Int) : Int) < (n : Int)))) (wt0 rfl) rfl rfl (x_bin rfl rfl rfl b_lss) ?_)
  refine g_nil ?_
  refine g_then ?_
  refine g_seq ?_
  by_cases hb3 : ((i : Int) : Int) < (n : Int)
  · skip
    obtain ⟨d, hm⟩ : ∃ d, l[i]? = some d := ⟨_, List.getElem?_eq_getElem (by omega)⟩
    refine g_cond_t rfl (decide_eq_true hb3) ?_
    refine g_skip ?_
    refine g_then ?_
    refine g_seq ?_
    refine g_block ?_
    refine g_seq ?_
    refine g_region ?_
    refine l_of (s_val (v := .pointer ((p).map fun q => q.add (i * 2))) (wt0 rfl) rfl rfl (x_idxR i (H2.oldReads (k := 0) rfl hr) rfl rfl rfl Try.underlying55 sz57 (by omega)) ?_)
    refine l_of (s_val (v := .agg #[.string (d.text), .int .i64 (d.take)]) (wt0 rfl) rfl rfl (x_loadRA (vs := d.cellsL) i (H2.oldReads (k := 0) rfl hr) (by omega) rfl rfl Try.underlying57 rfl sz57 (by rfl) (flat_at (f := De.cellsL) (size := 2) (fun _ _ => rfl) hm)) ?_)
    refine l_of (s_alloc H2 (wt0 rfl) rfl rfl rfl ze57 ?_)
    intro g4 wq5 H6
    refine l_of (s_store H6 0 (wt0 rfl) rfl rfl rfl rfl rfl sz57 rfl rfl (cs' := #[.string (d.text), .int .i64 (d.take)]) rfl ?_)
    intro wq7 H8
    refine g_nil ?_
    refine g_then ?_
    refine g_region ?_
    refine l_of (s_val (v := .int .i64 nn) (wt0 rfl) rfl rfl (x_move rfl rfl) ?_)
    refine l_of (s_val (v := .pointer (some ⟨g4, 0, none⟩)) (wt0 rfl) rfl rfl (x_fieldAddr rfl rfl fo57_0 rfl) ?_)
    refine l_of (s_val (v := .string (d.text)) (wt0 rfl) rfl rfl (x_load1 H8 0 rfl rfl Try.underlying9 rfl rfl rfl) ?_)
    refine l_of (s_val (v := .int .i64 ((d.text.size : Int))) (wt0 rfl) rfl rfl (x_lens rfl rfl Try.underlying9) ?_)
    refine l_of (s_val (v := .int .i64 (IntKind.i64.wrap (nn + (d.text.size : Int)))) (wt0 rfl) rfl rfl (x_bin rfl rfl rfl (b_add rfl)) ?_)
    refine l_of (s_val (v := .int .i64 (IntKind.i64.wrap (nn + (d.text.size : Int)))) (wt0 rfl) rfl rfl (x_assign rfl rfl) ?_)
    refine g_nil ?_
    refine g_in ?_
    refine g_then ?_
    refine g_region ?_
    refine l_of (s_val (v := .int .i64 ((i : Int) + 1)) (wt0 rfl) rfl rfl (x_bin rfl rfl rfl (b_add (w64 (by omega)))) ?_)
    refine l_of (s_val (v := .int .i64 ((i : Int) + 1)) (wt0 rfl) rfl rfl (x_move rfl rfl) ?_)
    refine g_nil ?_
    refine g_then ?_
    refine g_round (i := (i, nn)) (i + 1, IntKind.i64.wrap (nn + (d.text.size : Int))) ?_ ?_ ?_
    · exact ⟨rfl, rfl, rfl, rfl, rfl, rfl, trivial⟩
    · exact ⟨by omega, (H8.mask [false, true])⟩
    · (try dsimp only); omega
  · skip
    refine g_cond_f rfl (decide_eq_false hb3) ?_
    refine g_exit ?_
    refine g_then_exit ?_
    refine g_then_exit ?_
    refine g_in_hit ?_
    refine g_then ?_
    refine g_seq ?_
    refine g_seq ?_
    refine g_region ?_
    refine l_of (s_val (v := .slice p n c) (wt0 rfl) rfl rfl (x_move rfl rfl) ?_)
    refine l_of (s_val (v := .int .i64 ((n : Int))) (wt0 rfl) rfl rfl (x_lenl rfl rfl Try.underlying55) ?_)
    refine l_of (s_val (v := .bool (decide ((30 : Int) < (n : Int)))) (wt0 rfl) rfl rfl (x_bin rfl rfl rfl b_gtr) ?_)
    refine l_of (s_val (v := .bool (decide ((30 : Int) < (n : Int)))) (wt0 rfl) rfl rfl (x_move rfl rfl) ?_)
    by_cases hb9 : (30 : Int) < (n : Int)
    · skip
      refine l_of (s_not (wn1 rfl rfl rfl rfl (decide_eq_true hb9)) rfl rfl ?_)
      refine l_of (s_not (wn1 rfl rfl rfl rfl (decide_eq_true hb9)) rfl rfl ?_)
      refine l_of (s_val (v := .bool true) (wt0 rfl) rfl rfl (x_pick_t rfl rfl (decide_eq_true hb9) rfl) ?_)
      refine g_nil ?_
      refine g_then ?_
      refine g_cond_t rfl rfl ?_
      refine g_seq ?_
      refine g_region ?_
      refine l_of (s_call (wt0 rfl) (x_call' rfl rfl cl10) (awake_p _) ?_)
      rintro _ wq10 ⟨rfl, H11⟩
      replace H11 : S wq10 [Old w no] := H2.absorb (new := []) (S.of_below H11)
      refine b_ret rfl rfl ?_
      refine l_of (s_val (v := .bool true) (wt0 rfl) rfl rfl (x_assign rfl rfl) ?_)
      refine g_nil ?_
      refine g_then ?_
      refine g_weak [(4, .bool true)] ⟨rfl, trivial⟩ ?_
      refine g_ret ?_
      refine g_then_ret ?_
      refine fin_ret [.tmp 4] [.bool true] rfl ⟨rfl, trivial⟩ ?_
      exact ⟨rfl, (H11.mask [true]).below (new := [])⟩
    · skip
      refine l_of (s_val (v := .int .i64 nn) (wt1 rfl rfl rfl rfl (decide_eq_false hb9)) rfl rfl (x_move rfl rfl) ?_)
      refine l_of (s_val (v := .bool (decide ((3000 : Int) < nn))) (wt1 rfl rfl rfl rfl (decide_eq_false hb9)) rfl rfl (x_bin rfl rfl rfl b_gtr) ?_)
      refine l_of (s_val (v := .bool (decide ((3000 : Int) < nn))) (wt0 rfl) rfl rfl (x_pick_f rfl rfl (decide_eq_false hb9) rfl) ?_)
      refine g_nil ?_
      refine g_then ?_
      by_cases hb12 : (3000 : Int) < nn
      · skip
        refine g_cond_t rfl (decide_eq_true hb12) ?_
        refine g_seq ?_
        refine g_region ?_
        refine l_of (s_call (wt0 rfl) (x_call' rfl rfl cl10) (awake_p _) ?_)
        rintro _ wq13 ⟨rfl, H14⟩
        replace H14 : S wq13 [Old w no] := H2.absorb (new := []) (S.of_below H14)
        refine b_ret rfl rfl ?_
        refine l_of (s_val (v := .bool true) (wt0 rfl) rfl rfl (x_assign rfl rfl) ?_)
        refine g_nil ?_
        refine g_then ?_
        refine g_weak [(4, .bool true)] ⟨rfl, trivial⟩ ?_
        refine g_ret ?_
        refine g_then_ret ?_
        refine fin_ret [.tmp 4] [.bool true] rfl ⟨rfl, trivial⟩ ?_
        exact ⟨rfl, (H14.mask [true]).below (new := [])⟩
      · skip
        refine g_cond_f rfl (decide_eq_false hb12) ?_
        refine g_skip ?_
        refine g_then ?_
        refine g_weak [(0, .bool g), (1, .slice p n c)] ⟨rfl, rfl, trivial⟩ ?_
        refine g_seq ?_
        refine g_region ?_
        refine l_of (s_val (v := .bool g) (wt0 rfl) rfl rfl (x_move rfl rfl) ?_)
        refine l_of (s_call (wt0 rfl) (x_call' rfl rfl cl32) (new_p _ _) ?_)
        rintro _ wq15 ⟨gr, rfl, H16⟩
        replace H16 : S wq15 [Ob gr (.cells #[.slice none (newR g).ms.length 0, .slice none (newR g).ms.length 0, .int .i64 ((newR g).bytes), .bool ((newR g).greet), .bool ((newR g).hello.e), .bool ((newR g).hello.f), .bool ((newR g).hello.n), .string ((newR g).hello.name), .string ((newR g).hello.peer), .bool ((newR g).told), .string ((newR g).left), .int .i64 ((newR g).done), .int .i64 ((newR g).wrong)] 108 (0, 0)), Rw 33 8 none (newR g).ms.length 0 (msgsV (newR g).ms), Rw 3 1 none (newR g).ms.length 0 (zsV (newR g).zs), Old w no] := H2.absorb (new := [Ob gr (.cells #[.slice none (newR g).ms.length 0, .slice none (newR g).ms.length 0, .int .i64 ((newR g).bytes), .bool ((newR g).greet), .bool ((newR g).hello.e), .bool ((newR g).hello.f), .bool ((newR g).hello.n), .string ((newR g).hello.name), .string ((newR g).hello.peer), .bool ((newR g).told), .string ((newR g).left), .int .i64 ((newR g).done), .int .i64 ((newR g).wrong)] 108 (0, 0)), Rw 33 8 none (newR g).ms.length 0 (msgsV (newR g).ms), Rw 3 1 none (newR g).ms.length 0 (zsV (newR g).zs)]) H16
        refine b_ret rfl rfl ?_
        refine l_of (s_val (v := .bool g) (wt0 rfl) rfl rfl (x_move rfl rfl) ?_)
        refine l_of (s_call (wt0 rfl) (x_call' rfl rfl cl36) (new_r _ _) ?_)
        rintro _ wq17 ⟨gw, rfl, H18⟩
        replace H18 : S wq17 [Ob gw (.cells #[.bool g, .string (⟨#[]⟩), .int .i64 0] 113 (0, 0)), Ob gr (.cells #[.slice none (newR g).ms.length 0, .slice none (newR g).ms.length 0, .int .i64 ((newR g).bytes), .bool ((newR g).greet), .bool ((newR g).hello.e), .bool ((newR g).hello.f), .bool ((newR g).hello.n), .string ((newR g).hello.name), .string ((newR g).hello.peer), .bool ((newR g).told), .string ((newR g).left), .int .i64 ((newR g).done), .int .i64 ((newR g).wrong)] 108 (0, 0)), Rw 33 8 none (newR g).ms.length 0 (msgsV (newR g).ms), Rw 3 1 none (newR g).ms.length 0 (zsV (newR g).zs), Old w no] := H16.absorb (new := [Ob gw (.cells #[.bool g, .string (⟨#[]⟩), .int .i64 0] 113 (0, 0))]) H18
        refine b_ret rfl rfl ?_
        refine l_of (s_val (v := .pointer (some ⟨gr, 0, none⟩)) (wt0 rfl) rfl rfl (x_assign rfl rfl) ?_)
        refine l_of (s_val (v := .pointer (some ⟨gw, 0, none⟩)) (wt0 rfl) rfl rfl (x_assign rfl rfl) ?_)
        refine g_nil ?_
        refine g_then ?_
        refine g_seq ?_
        refine g_seq ?_
        refine g_region ?_
        refine l_of (s_val (v := .slice p n c) (wt0 rfl) rfl rfl (x_move rfl rfl) ?_)
        refine l_of (s_val (v := .int .i64 ((n : Int))) (wt0 rfl) rfl rfl (x_lenl rfl rfl Try.underlying55) ?_)
        refine l_of (s_val (v := .int .i64 0) (wt0 rfl) rfl rfl (x_move rfl rfl) ?_)
        refine g_nil ?_
        refine g_then ?_
        refine g_block ?_
        refine g_loop (ι := Nat × Rdr × Option Addr × Nat × Option Addr × Nat × ByteArray × Nat) (fun (j, rr, q1, d1, q2, d2, fed, t) => [(8, .pointer (some ⟨gr, 0, none⟩)), (9, .pointer (some ⟨gw, 0, none⟩)), (44, .slice p n c), (45, .int .i64 ((n : Int))), (46, .int .i64 ((j : Int)))]) (fun (j, rr, q1, d1, q2, d2, fed, t) wx => (j ≤ n) ∧ (rr.Ok (65536 * j)) ∧ (fed.size ≤ 65536 * j) ∧ (Agree rr g fed t) ∧ S wx [Ob gr (.cells #[.slice q1 rr.ms.length d1, .slice q2 rr.ms.length d2, .int .i64 (rr.bytes), .bool rr.greet, .bool rr.hello.e, .bool rr.hello.f, .bool rr.hello.n, .string (rr.hello.name), .string (rr.hello.peer), .bool rr.told, .string (rr.left), .int .i64 (rr.done), .int .i64 (rr.wrong)] 108 (0, 0)), Rw 33 8 q1 rr.ms.length d1 (msgsV rr.ms), Rw 3 1 q2 rr.ms.length d2 (zsV rr.zs), Ob gw (.cells #[.bool g, .string fed, .int .i64 ((t : Int))] 113 (0, 0)), Old w no]) (fun (j, rr, q1, d1, q2, d2, fed, t) => n - j) (0, newR g, none, 0, none, 0, ⟨#[]⟩, 0) ⟨rfl, rfl, rfl, rfl, rfl, trivial⟩ ⟨Nat.zero_le _, newR_ok g, Nat.zero_le _, agree_new g, (H18.takes [1, 2, 3, 0, 4] (by decide))⟩ ?_
        rintro ⟨j, rr, q1, d1, q2, d2, fed, t⟩ wq19 ⟨hj, hok, hfs, hag, H20⟩
        replace H20 : S wq19 [Ob gr (.cells #[.slice q1 rr.ms.length d1, .slice q2 rr.ms.length d2, .int .i64 (rr.bytes), .bool rr.greet, .bool rr.hello.e, .bool rr.hello.f, .bool rr.hello.n, .string (rr.hello.name), .string (rr.hello.peer), .bool rr.told, .string (rr.left), .int .i64 (rr.done), .int .i64 (rr.wrong)] 108 (0, 0)), Rw 33 8 q1 rr.ms.length d1 (msgsV rr.ms), Rw 3 1 q2 rr.ms.length d2 (zsV rr.zs), Ob gw (.cells #[.bool g, .string fed, .int .i64 ((t : Int))] 113 (0, 0)), Old w no] := H20
        refine g_weak [(8, .pointer (some ⟨gr, 0, none⟩)), (9, .pointer (some ⟨gw, 0, none⟩)), (44, .slice p n c), (45, .int .i64 ((n : Int))), (46, .int .i64 ((j : Int)))] ⟨rfl, rfl, rfl, rfl, rfl, trivial⟩ ?_
        refine g_seq ?_
        refine g_region ?_
        refine l_of (s_val (v := .bool (decide (((j : Int) : Int) < (n : Int)))) (wt0 rfl) rfl rfl (x_bin rfl rfl rfl b_lss) ?_)
        refine g_nil ?_
        refine g_then ?_
        refine g_seq ?_
        by_cases hb21 : ((j : Int) : Int) < (n : Int)
        · skip
          obtain ⟨d, hm⟩ : ∃ d, l[j]? = some d := ⟨_, List.getElem?_eq_getElem (by omega)⟩
          obtain ⟨hfe, hag1⟩ := agree_feed hok hag d.text
          have hfz := feedS_size g fed t d.text
          have hok1 := feed_ok' hok d.text (by omega)
          refine g_cond_t rfl (decide_eq_true hb21) ?_
          refine g_skip ?_
          refine g_then ?_
          refine g_seq ?_
          refine g_block ?_
          refine g_seq ?_
          refine g_region ?_
          refine l_of (s_val (v := .pointer ((p).map fun q => q.add (j * 2))) (wt0 rfl) rfl rfl (x_idxR j (H20.oldReads (k := 4) rfl hr) rfl rfl rfl Try.underlying55 sz57 (by omega)) ?_)
          refine l_of (s_val (v := .agg #[.string (d.text), .int .i64 (d.take)]) (wt0 rfl) rfl rfl (x_loadRA (vs := d.cellsL) j (H20.oldReads (k := 4) rfl hr) (by omega) rfl rfl Try.underlying57 rfl sz57 (by rfl) (flat_at (f := De.cellsL) (size := 2) (fun _ _ => rfl) hm)) ?_)
          refine l_of (s_alloc H20 (wt0 rfl) rfl rfl rfl ze57 ?_)
          intro g22 wq23 H24
          refine l_of (s_store H24 0 (wt0 rfl) rfl rfl rfl rfl rfl sz57 rfl rfl (cs' := #[.string (d.text), .int .i64 (d.take)]) rfl ?_)
          intro wq25 H26
          refine g_nil ?_
          refine g_then ?_
          refine g_seq ?_
          refine g_seq ?_
          refine g_anyY [] (fun wx => S wx [Ob g22 (.cells #[.string (d.text), .int .i64 (d.take)] 57 (0, 0))]) (fun wx => S wx [Ob g22 (.cells #[.string (d.text), .int .i64 (d.take)] 57 (0, 0))]) [] (by kernel_rfl) H26 (fun wq27 H28 => ?_)
          refine y_pure (v := .pointer (some ⟨gr, 0, none⟩)) 0 rfl (wt0 rfl) rfl rfl rfl (by kernel_rfl) (by kernel_rfl) (by kernel_rfl) (by kernel_rfl) (fun wx => x_move rfl rfl) ?_
          refine y_pure (v := .pointer (some ⟨g22, 0, none⟩)) 1 rfl (wt0 rfl) rfl rfl rfl (by kernel_rfl) (by kernel_rfl) (by kernel_rfl) (by kernel_rfl) (fun wx => x_fieldAddr rfl rfl fo57_0 rfl) ?_
          refine y_take (v := .string (d.text)) 2 rfl (wt0 rfl) rfl rfl rfl (by kernel_rfl) (by kernel_rfl) (by kernel_rfl) (by kernel_rfl) (by kernel_rfl) (H28.mask [true, false, false, false, false, false]) (fun wx H => x_load1 H 0 rfl rfl Try.underlying9 rfl rfl rfl) ?_
          refine y_pure (v := .pointer (some ⟨gw, 0, none⟩)) 4 rfl (wt0 rfl) rfl rfl rfl (by kernel_rfl) (by kernel_rfl) (by kernel_rfl) (by kernel_rfl) (fun wx => x_move rfl rfl) ?_
          refine y_pure (v := .pointer (some ⟨g22, 0, none⟩)) 5 rfl (wt0 rfl) rfl rfl rfl (by kernel_rfl) (by kernel_rfl) (by kernel_rfl) (by kernel_rfl) (fun wx => x_fieldAddr rfl rfl fo57_0 rfl) ?_
          refine y_take (v := .string (d.text)) 6 rfl (wt0 rfl) rfl rfl rfl (by kernel_rfl) (by kernel_rfl) (by kernel_rfl) (by kernel_rfl) (by kernel_rfl) (H28.mask [true, false, false, false, false, false]) (fun wx H => x_load1 H 0 rfl rfl Try.underlying9 rfl rfl rfl) ?_
          refine y_one (i := 3) (by kernel_rfl) rfl ?_
          refine s_call (wt0 rfl) (x_call' rfl rfl cl33) (feed_pp gr rr hok d.text (by omega) q1 q2 d1 d2 _ (H28.takes [1, 2, 3] (by decide))) ?_
          rintro _ wq33 ⟨rfl, p29, c30, p31, c32, H34⟩
          replace H34 : S wq33 [Ob gr (.cells #[.slice p29 (feedR rr d.text).1.ms.length c30, .slice p31 (feedR rr d.text).1.ms.length c32, .int .i64 ((feedR rr d.text).1.bytes), .bool ((feedR rr d.text).1.greet), .bool ((feedR rr d.text).1.hello.e), .bool ((feedR rr d.text).1.hello.f), .bool ((feedR rr d.text).1.hello.n), .string ((feedR rr d.text).1.hello.name), .string ((feedR rr d.text).1.hello.peer), .bool ((feedR rr d.text).1.told), .string ((feedR rr d.text).1.left), .int .i64 ((feedR rr d.text).1.done), .int .i64 ((feedR rr d.text).1.wrong)] 108 (0, 0)), Rw 33 8 p29 (feedR rr d.text).1.ms.length c30 (msgsV (feedR rr d.text).1.ms), Rw 3 1 p31 (feedR rr d.text).1.ms.length c32 (zsV (feedR rr d.text).1.zs), Ob g22 (.cells #[.string (d.text), .int .i64 (d.take)] 57 (0, 0)), Ob gw (.cells #[.bool g, .string fed, .int .i64 ((t : Int))] 113 (0, 0)), Old w no] := H28.absorbI (new := [Ob gr (.cells #[.slice p29 (feedR rr d.text).1.ms.length c30, .slice p31 (feedR rr d.text).1.ms.length c32, .int .i64 ((feedR rr d.text).1.bytes), .bool ((feedR rr d.text).1.greet), .bool ((feedR rr d.text).1.hello.e), .bool ((feedR rr d.text).1.hello.f), .bool ((feedR rr d.text).1.hello.n), .string ((feedR rr d.text).1.hello.name), .string ((feedR rr d.text).1.hello.peer), .bool ((feedR rr d.text).1.told), .string ((feedR rr d.text).1.left), .int .i64 ((feedR rr d.text).1.done), .int .i64 ((feedR rr d.text).1.wrong)] 108 (0, 0)), Rw 33 8 p29 (feedR rr d.text).1.ms.length c30 (msgsV (feedR rr d.text).1.ms), Rw 3 1 p31 (feedR rr d.text).1.ms.length c32 (zsV (feedR rr d.text).1.zs)]) [1, 2, 3] H34
          refine b_ret rfl rfl ?_
          refine y_k (H34.mask [false, false, false, true, false, false]) (H34.mask [false, false, false, true, false, false]) ?_
          refine y_one (i := 7) (by kernel_rfl) rfl ?_
          refine s_call (wt0 rfl) (x_call' rfl rfl cl37) (feed_rr gw g fed t d.text (by omega) hag.taken _ (H34.takes [4] (by decide))) ?_
          rintro _ wq35 ⟨rfl, H36⟩
          replace H36 : S wq35 [Ob gw (.cells #[.bool g, .string ((feedS g fed t d.text).1), .int .i64 ((t : Int))] 113 (0, 0)), Ob gr (.cells #[.slice p29 (feedR rr d.text).1.ms.length c30, .slice p31 (feedR rr d.text).1.ms.length c32, .int .i64 ((feedR rr d.text).1.bytes), .bool ((feedR rr d.text).1.greet), .bool ((feedR rr d.text).1.hello.e), .bool ((feedR rr d.text).1.hello.f), .bool ((feedR rr d.text).1.hello.n), .string ((feedR rr d.text).1.hello.name), .string ((feedR rr d.text).1.hello.peer), .bool ((feedR rr d.text).1.told), .string ((feedR rr d.text).1.left), .int .i64 ((feedR rr d.text).1.done), .int .i64 ((feedR rr d.text).1.wrong)] 108 (0, 0)), Rw 33 8 p29 (feedR rr d.text).1.ms.length c30 (msgsV (feedR rr d.text).1.ms), Rw 3 1 p31 (feedR rr d.text).1.ms.length c32 (zsV (feedR rr d.text).1.zs), Ob g22 (.cells #[.string (d.text), .int .i64 (d.take)] 57 (0, 0)), Old w no] := H34.absorbI (new := [Ob gw (.cells #[.bool g, .string ((feedS g fed t d.text).1), .int .i64 ((t : Int))] 113 (0, 0))]) [4] H36
          refine b_ret rfl rfl ?_
          refine y_k (H36.mask [false, false, false, false, true, false]) (H36.mask [false, false, false, false, true, false]) ?_
          refine y_pure (v := .bool (!decide (((feedR rr d.text).2 : Int) = (feedS g fed t d.text).2))) 8 rfl (wt0 rfl) rfl rfl rfl (by kernel_rfl) (by kernel_rfl) (by kernel_rfl) (by kernel_rfl) (fun wx => x_bin rfl rfl rfl b_neq) ?_
          refine y_done (by kernel_rfl) ?_
          refine g_then ?_
          refine g_cond_f rfl (nf hfe) ?_
          refine g_skip ?_
          refine g_then ?_
          refine g_weak [(8, .pointer (some ⟨gr, 0, none⟩)), (9, .pointer (some ⟨gw, 0, none⟩)), (11, .pointer (some ⟨g22, 0, none⟩)), (44, .slice p n c), (45, .int .i64 ((n : Int))), (46, .int .i64 ((j : Int)))] ⟨rfl, rfl, rfl, rfl, rfl, rfl, trivial⟩ ?_
          refine g_seq ?_
          refine g_region ?_
          refine l_of (s_val (v := .pointer (some ⟨gw, 0, none⟩)) (wt0 rfl) rfl rfl (x_move rfl rfl) ?_)
          refine l_of (s_call (wt0 rfl) (x_call' rfl rfl cl38) (whole_p gw g (feedS g fed t d.text).1 (by omega) _ (H36.cell (k := 0) rfl rfl) (H36.cell (k := 0) rfl rfl)) ?_)
          rintro _ wq41 ⟨p37, c38, p39, c40, rfl, H42⟩
          replace H42 : S wq41 [Rw 33 8 p37 (wholeR g (feedS g fed t d.text).1).list.length c38 (msgsV (wholeR g (feedS g fed t d.text).1).list), Rw 3 1 p39 (wholeR g (feedS g fed t d.text).1).ends.length c40 (zsV (wholeR g (feedS g fed t d.text).1).ends), Ob gw (.cells #[.bool g, .string ((feedS g fed t d.text).1), .int .i64 ((t : Int))] 113 (0, 0)), Ob gr (.cells #[.slice p29 (feedR rr d.text).1.ms.length c30, .slice p31 (feedR rr d.text).1.ms.length c32, .int .i64 ((feedR rr d.text).1.bytes), .bool ((feedR rr d.text).1.greet), .bool ((feedR rr d.text).1.hello.e), .bool ((feedR rr d.text).1.hello.f), .bool ((feedR rr d.text).1.hello.n), .string ((feedR rr d.text).1.hello.name), .string ((feedR rr d.text).1.hello.peer), .bool ((feedR rr d.text).1.told), .string ((feedR rr d.text).1.left), .int .i64 ((feedR rr d.text).1.done), .int .i64 ((feedR rr d.text).1.wrong)] 108 (0, 0)), Rw 33 8 p29 (feedR rr d.text).1.ms.length c30 (msgsV (feedR rr d.text).1.ms), Rw 3 1 p31 (feedR rr d.text).1.ms.length c32 (zsV (feedR rr d.text).1.zs), Ob g22 (.cells #[.string (d.text), .int .i64 (d.take)] 57 (0, 0)), Old w no] := H36.absorb (new := [Rw 33 8 p37 (wholeR g (feedS g fed t d.text).1).list.length c38 (msgsV (wholeR g (feedS g fed t d.text).1).list), Rw 3 1 p39 (wholeR g (feedS g fed t d.text).1).ends.length c40 (zsV (wholeR g (feedS g fed t d.text).1).ends)]) H42
          refine b_ret rfl rfl ?_
          refine l_of (s_alloc H42 (wt0 rfl) rfl rfl rfl ze62 ?_)
          intro g43 wq44 H45
          refine l_of (s_store H45 0 (wt0 rfl) rfl rfl rfl rfl rfl sz62 rfl rfl (cs' := #[.bool ((wholeR g (feedS g fed t d.text).1).hello.e), .bool ((wholeR g (feedS g fed t d.text).1).hello.f), .bool ((wholeR g (feedS g fed t d.text).1).hello.n), .string ((wholeR g (feedS g fed t d.text).1).hello.name), .string ((wholeR g (feedS g fed t d.text).1).hello.peer), .bool ((wholeR g (feedS g fed t d.text).1).greets), .slice p37 (wholeR g (feedS g fed t d.text).1).list.length c38, .slice p39 (wholeR g (feedS g fed t d.text).1).ends.length c40, .int .i64 ((wholeR g (feedS g fed t d.text).1).start), .int .i64 ((wholeR g (feedS g fed t d.text).1).wrong)]) rfl ?_)
          intro wq46 H47
          refine g_nil ?_
          refine g_then ?_
          refine g_seq ?_
          refine g_region ?_
          refine l_of (s_val (v := .pointer (some ⟨gr, 0, none⟩)) (wt0 rfl) rfl rfl (x_move rfl rfl) ?_)
          refine l_of (s_call (wt0 rfl) (x_call' rfl rfl cl39) (hello_w gr (feedR rr d.text).1 (feed_ok' hok d.text (by omega)) p29 p31 c30 c32 _ (H47.takes [4, 5, 6] (by decide))) ?_)
          rintro _ wq52 ⟨rfl, p48, c49, p50, c51, H53⟩
          replace H53 : S wq52 [Ob gr (.cells #[.slice p48 (((feedR rr d.text).1, ())).1.ms.length c49, .slice p50 (((feedR rr d.text).1, ())).1.ms.length c51, .int .i64 ((((feedR rr d.text).1, ())).1.bytes), .bool ((((feedR rr d.text).1, ())).1.greet), .bool ((((feedR rr d.text).1, ())).1.hello.e), .bool ((((feedR rr d.text).1, ())).1.hello.f), .bool ((((feedR rr d.text).1, ())).1.hello.n), .string ((((feedR rr d.text).1, ())).1.hello.name), .string ((((feedR rr d.text).1, ())).1.hello.peer), .bool ((((feedR rr d.text).1, ())).1.told), .string ((((feedR rr d.text).1, ())).1.left), .int .i64 ((((feedR rr d.text).1, ())).1.done), .int .i64 ((((feedR rr d.text).1, ())).1.wrong)] 108 (0, 0)), Rw 33 8 p48 (((feedR rr d.text).1, ())).1.ms.length c49 (msgsV (((feedR rr d.text).1, ())).1.ms), Rw 3 1 p50 (((feedR rr d.text).1, ())).1.ms.length c51 (zsV (((feedR rr d.text).1, ())).1.zs), Ob g43 (.cells #[.bool ((wholeR g (feedS g fed t d.text).1).hello.e), .bool ((wholeR g (feedS g fed t d.text).1).hello.f), .bool ((wholeR g (feedS g fed t d.text).1).hello.n), .string ((wholeR g (feedS g fed t d.text).1).hello.name), .string ((wholeR g (feedS g fed t d.text).1).hello.peer), .bool ((wholeR g (feedS g fed t d.text).1).greets), .slice p37 (wholeR g (feedS g fed t d.text).1).list.length c38, .slice p39 (wholeR g (feedS g fed t d.text).1).ends.length c40, .int .i64 ((wholeR g (feedS g fed t d.text).1).start), .int .i64 ((wholeR g (feedS g fed t d.text).1).wrong)] 62 (0, 0)), Rw 33 8 p37 (wholeR g (feedS g fed t d.text).1).list.length c38 (msgsV (wholeR g (feedS g fed t d.text).1).list), Rw 3 1 p39 (wholeR g (feedS g fed t d.text).1).ends.length c40 (zsV (wholeR g (feedS g fed t d.text).1).ends), Ob gw (.cells #[.bool g, .string ((feedS g fed t d.text).1), .int .i64 ((t : Int))] 113 (0, 0)), Ob g22 (.cells #[.string (d.text), .int .i64 (d.take)] 57 (0, 0)), Old w no] := H47.absorbI (new := [Ob gr (.cells #[.slice p48 (((feedR rr d.text).1, ())).1.ms.length c49, .slice p50 (((feedR rr d.text).1, ())).1.ms.length c51, .int .i64 ((((feedR rr d.text).1, ())).1.bytes), .bool ((((feedR rr d.text).1, ())).1.greet), .bool ((((feedR rr d.text).1, ())).1.hello.e), .bool ((((feedR rr d.text).1, ())).1.hello.f), .bool ((((feedR rr d.text).1, ())).1.hello.n), .string ((((feedR rr d.text).1, ())).1.hello.name), .string ((((feedR rr d.text).1, ())).1.hello.peer), .bool ((((feedR rr d.text).1, ())).1.told), .string ((((feedR rr d.text).1, ())).1.left), .int .i64 ((((feedR rr d.text).1, ())).1.done), .int .i64 ((((feedR rr d.text).1, ())).1.wrong)] 108 (0, 0)), Rw 33 8 p48 (((feedR rr d.text).1, ())).1.ms.length c49 (msgsV (((feedR rr d.text).1, ())).1.ms), Rw 3 1 p50 (((feedR rr d.text).1, ())).1.ms.length c51 (zsV (((feedR rr d.text).1, ())).1.zs)]) [4, 5, 6] H53
          refine b_ret rfl rfl ?_
          refine l_of (s_val (v := .tuple #[.agg (if (feedR rr d.text).1.told = true then (feedR rr d.text).1.hello else Hs.zero).cells, .bool ((feedR rr d.text).1.told)]) (wt0 rfl) rfl rfl (x_move rfl rfl) ?_)
          refine l_of (s_val (v := .agg (if (feedR rr d.text).1.told = true then (feedR rr d.text).1.hello else Hs.zero).cells) (wt0 rfl) rfl rfl (x_extract rfl rfl rfl) ?_)
          refine l_of (s_val (v := .bool ((feedR rr d.text).1.told)) (wt0 rfl) rfl rfl (x_extract rfl rfl rfl) ?_)
          refine l_of (s_alloc H53 (wt0 rfl) rfl rfl rfl ze23 ?_)
          intro g54 wq55 H56
          refine l_of (s_store H56 0 (wt0 rfl) rfl rfl rfl rfl rfl sz23 rfl rfl (cs' := (if (feedR rr d.text).1.told = true then (feedR rr d.text).1.hello else Hs.zero).cells) rfl ?_)
          intro wq57 H58
          refine l_of (s_val (v := .bool ((feedR rr d.text).1.told)) (wt0 rfl) rfl rfl (x_assign rfl rfl) ?_)
          refine g_nil ?_
          refine g_then ?_
          refine g_seq ?_
          refine g_seq ?_
          refine g_anyY [] (fun wx => S wx [Ob g54 (.cells (if (feedR rr d.text).1.told = true then (feedR rr d.text).1.hello else Hs.zero).cells 23 (0, 0)), Ob g43 (.cells #[.bool ((wholeR g (feedS g fed t d.text).1).hello.e), .bool ((wholeR g (feedS g fed t d.text).1).hello.f), .bool ((wholeR g (feedS g fed t d.text).1).hello.n), .string ((wholeR g (feedS g fed t d.text).1).hello.name), .string ((wholeR g (feedS g fed t d.text).1).hello.peer), .bool ((wholeR g (feedS g fed t d.text).1).greets), .slice p37 (wholeR g (feedS g fed t d.text).1).list.length c38, .slice p39 (wholeR g (feedS g fed t d.text).1).ends.length c40, .int .i64 ((wholeR g (feedS g fed t d.text).1).start), .int .i64 ((wholeR g (feedS g fed t d.text).1).wrong)] 62 (0, 0))]) (fun wx => S wx [Ob g54 (.cells (if (feedR rr d.text).1.told = true then (feedR rr d.text).1.hello else Hs.zero).cells 23 (0, 0)), Ob g43 (.cells #[.bool ((wholeR g (feedS g fed t d.text).1).hello.e), .bool ((wholeR g (feedS g fed t d.text).1).hello.f), .bool ((wholeR g (feedS g fed t d.text).1).hello.n), .string ((wholeR g (feedS g fed t d.text).1).hello.name), .string ((wholeR g (feedS g fed t d.text).1).hello.peer), .bool ((wholeR g (feedS g fed t d.text).1).greets), .slice p37 (wholeR g (feedS g fed t d.text).1).list.length c38, .slice p39 (wholeR g (feedS g fed t d.text).1).ends.length c40, .int .i64 ((wholeR g (feedS g fed t d.text).1).start), .int .i64 ((wholeR g (feedS g fed t d.text).1).wrong)] 62 (0, 0))]) [] (by kernel_rfl) H58 (fun wq59 H60 => ?_)
          refine y_take (v := .agg (if (feedR rr d.text).1.told = true then (feedR rr d.text).1.hello else Hs.zero).cells) 0 rfl (wt0 rfl) rfl rfl rfl (by kernel_rfl) (by kernel_rfl) (by kernel_rfl) (by kernel_rfl) (by kernel_rfl) (H60.mask [true, false, false, false, true, false, false, false, false, false]) (fun wx H => x_loadA H 0 rfl rfl Try.underlying23 rfl sz23 rfl rfl rfl) ?_
          refine y_pure (v := .pointer (some ⟨g43, 0, none⟩)) 1 rfl (wt0 rfl) rfl rfl rfl (by kernel_rfl) (by kernel_rfl) (by kernel_rfl) (by kernel_rfl) (fun wx => x_fieldAddr rfl rfl fo62_0 rfl) ?_
          refine y_take (v := .agg #[.bool ((wholeR g (feedS g fed t d.text).1).hello.e), .bool ((wholeR g (feedS g fed t d.text).1).hello.f), .bool ((wholeR g (feedS g fed t d.text).1).hello.n), .string ((wholeR g (feedS g fed t d.text).1).hello.name), .string ((wholeR g (feedS g fed t d.text).1).hello.peer)]) 2 rfl (wt0 rfl) rfl rfl rfl (by kernel_rfl) (by kernel_rfl) (by kernel_rfl) (by kernel_rfl) (by kernel_rfl) (H60.mask [true, false, false, false, true, false, false, false, false, false]) (fun wx H => x_loadA H 1 rfl rfl Try.underlying23 rfl sz23 rfl rfl rfl) ?_
          refine y_pure (v := .bool (!decide ((if (feedR rr d.text).1.told = true then (feedR rr d.text).1.hello else Hs.zero) = (wholeR g (feedS g fed t d.text).1).hello))) 3 rfl (wt0 rfl) rfl rfl rfl (by kernel_rfl) (by kernel_rfl) (by kernel_rfl) (by kernel_rfl) (fun wx => x_bin rfl rfl rfl (b_hsN (if (feedR rr d.text).1.told = true then (feedR rr d.text).1.hello else Hs.zero) (wholeR g (feedS g fed t d.text).1).hello)) ?_
          refine y_pure (v := .bool (!decide ((if (feedR rr d.text).1.told = true then (feedR rr d.text).1.hello else Hs.zero) = (wholeR g (feedS g fed t d.text).1).hello))) 4 rfl (wt0 rfl) rfl rfl rfl (by kernel_rfl) (by kernel_rfl) (by kernel_rfl) (by kernel_rfl) (fun wx => x_move rfl rfl) ?_
          refine y_pure (v := .bool ((feedR rr d.text).1.told)) 5 rfl (wt1 rfl rfl rfl rfl (nf hag1.hi)) rfl rfl rfl (by kernel_rfl) (by kernel_rfl) (by kernel_rfl) (by kernel_rfl) (fun wx => x_move rfl rfl) ?_
          refine y_pure (v := .pointer (some ⟨g43, 5, none⟩)) 6 rfl (wt1 rfl rfl rfl rfl (nf hag1.hi)) rfl rfl rfl (by kernel_rfl) (by kernel_rfl) (by kernel_rfl) (by kernel_rfl) (fun wx => x_fieldAddr rfl rfl fo62_1 rfl) ?_
          refine y_take (v := .bool ((wholeR g (feedS g fed t d.text).1).greets)) 7 rfl (wt1 rfl rfl rfl rfl (nf hag1.hi)) rfl rfl rfl (by kernel_rfl) (by kernel_rfl) (by kernel_rfl) (by kernel_rfl) (by kernel_rfl) (H60.mask [true, false, false, false, true, false, false, false, false, false]) (fun wx H => x_load1 H 1 rfl rfl Try.underlying4 rfl rfl rfl) ?_
          refine y_pure (v := .bool (!(((feedR rr d.text).1.told) == ((wholeR g (feedS g fed t d.text).1).greets)))) 8 rfl (wt1 rfl rfl rfl rfl (nf hag1.hi)) rfl rfl rfl (by kernel_rfl) (by kernel_rfl) (by kernel_rfl) (by kernel_rfl) (fun wx => x_bin rfl rfl rfl (b_neN Try.underlying4 rfl)) ?_
          refine y_pure (v := .bool (!(((feedR rr d.text).1.told) == ((wholeR g (feedS g fed t d.text).1).greets)))) 9 rfl (wt0 rfl) rfl rfl rfl (by kernel_rfl) (by kernel_rfl) (by kernel_rfl) (by kernel_rfl) (fun wx => x_pick_f rfl rfl (nf hag1.hi) rfl) ?_
          refine y_pure (v := .bool (!(((feedR rr d.text).1.told) == ((wholeR g (feedS g fed t d.text).1).greets)))) 10 rfl (wt0 rfl) rfl rfl rfl (by kernel_rfl) (by kernel_rfl) (by kernel_rfl) (by kernel_rfl) (fun wx => x_move rfl rfl) ?_
          refine y_pure (v := .pointer (some ⟨gr, 0, none⟩)) 11 rfl (wt1 rfl rfl rfl rfl (by rw [hag1.told]; simp)) rfl rfl rfl (by kernel_rfl) (by kernel_rfl) (by kernel_rfl) (by kernel_rfl) (fun wx => x_move rfl rfl) ?_
          refine y_pure (v := .pointer (some ⟨g43, 9, none⟩)) 13 rfl (wt1 rfl rfl rfl rfl (by rw [hag1.told]; simp)) rfl rfl rfl (by kernel_rfl) (by kernel_rfl) (by kernel_rfl) (by kernel_rfl) (fun wx => x_fieldAddr rfl rfl fo62_5 rfl) ?_
          refine y_take (v := .int .i64 ((wholeR g (feedS g fed t d.text).1).wrong)) 14 rfl (wt1 rfl rfl rfl rfl (by rw [hag1.told]; simp)) rfl rfl rfl (by kernel_rfl) (by kernel_rfl) (by kernel_rfl) (by kernel_rfl) (by kernel_rfl) (H60.mask [true, false, false, false, true, false, false, false, false, false]) (fun wx H => x_load1 H 1 rfl rfl Try.underlying3 rfl rfl rfl) ?_
          refine y_one (i := 12) (by kernel_rfl) rfl ?_
          refine s_call (wt1 rfl rfl rfl rfl (by rw [hag1.told]; simp)) (x_call' rfl rfl cl40) (wrong_w gr _ _ (H60.cell (k := 1) rfl rfl)) ?_
          rintro _ wq61 ⟨rfl, H62⟩
          replace H62 : S wq61 [Ob g54 (.cells (if (feedR rr d.text).1.told = true then (feedR rr d.text).1.hello else Hs.zero).cells 23 (0, 0)), Ob gr (.cells #[.slice p48 (((feedR rr d.text).1, ())).1.ms.length c49, .slice p50 (((feedR rr d.text).1, ())).1.ms.length c51, .int .i64 ((((feedR rr d.text).1, ())).1.bytes), .bool ((((feedR rr d.text).1, ())).1.greet), .bool ((((feedR rr d.text).1, ())).1.hello.e), .bool ((((feedR rr d.text).1, ())).1.hello.f), .bool ((((feedR rr d.text).1, ())).1.hello.n), .string ((((feedR rr d.text).1, ())).1.hello.name), .string ((((feedR rr d.text).1, ())).1.hello.peer), .bool ((((feedR rr d.text).1, ())).1.told), .string ((((feedR rr d.text).1, ())).1.left), .int .i64 ((((feedR rr d.text).1, ())).1.done), .int .i64 ((((feedR rr d.text).1, ())).1.wrong)] 108 (0, 0)), Rw 33 8 p48 (((feedR rr d.text).1, ())).1.ms.length c49 (msgsV (((feedR rr d.text).1, ())).1.ms), Rw 3 1 p50 (((feedR rr d.text).1, ())).1.ms.length c51 (zsV (((feedR rr d.text).1, ())).1.zs), Ob g43 (.cells #[.bool ((wholeR g (feedS g fed t d.text).1).hello.e), .bool ((wholeR g (feedS g fed t d.text).1).hello.f), .bool ((wholeR g (feedS g fed t d.text).1).hello.n), .string ((wholeR g (feedS g fed t d.text).1).hello.name), .string ((wholeR g (feedS g fed t d.text).1).hello.peer), .bool ((wholeR g (feedS g fed t d.text).1).greets), .slice p37 (wholeR g (feedS g fed t d.text).1).list.length c38, .slice p39 (wholeR g (feedS g fed t d.text).1).ends.length c40, .int .i64 ((wholeR g (feedS g fed t d.text).1).start), .int .i64 ((wholeR g (feedS g fed t d.text).1).wrong)] 62 (0, 0)), Rw 33 8 p37 (wholeR g (feedS g fed t d.text).1).list.length c38 (msgsV (wholeR g (feedS g fed t d.text).1).list), Rw 3 1 p39 (wholeR g (feedS g fed t d.text).1).ends.length c40 (zsV (wholeR g (feedS g fed t d.text).1).ends), Ob gw (.cells #[.bool g, .string ((feedS g fed t d.text).1), .int .i64 ((t : Int))] 113 (0, 0)), Ob g22 (.cells #[.string (d.text), .int .i64 (d.take)] 57 (0, 0)), Old w no] := H60.absorb (new := []) H62
          refine b_ret rfl rfl ?_
          refine y_k (H62.mask [true, false, false, false, true, false, false, false, false, false]) (H62.mask [true, false, false, false, true, false, false, false, false, false]) ?_
          refine y_pure (v := .bool (!decide (((((feedR rr d.text).1, ())).1.wrong : Int) = (wholeR g (feedS g fed t d.text).1).wrong))) 15 rfl (wt1 rfl rfl rfl rfl (by rw [hag1.told]; simp)) rfl rfl rfl (by kernel_rfl) (by kernel_rfl) (by kernel_rfl) (by kernel_rfl) (fun wx => x_bin rfl rfl rfl b_neq) ?_
          refine y_pure (v := .bool (!decide (((((feedR rr d.text).1, ())).1.wrong : Int) = (wholeR g (feedS g fed t d.text).1).wrong))) 16 rfl (wt0 rfl) rfl rfl rfl (by kernel_rfl) (by kernel_rfl) (by kernel_rfl) (by kernel_rfl) (fun wx => x_pick_f rfl rfl (by rw [hag1.told]; simp) rfl) ?_
          refine y_pure (v := .bool (!decide (((((feedR rr d.text).1, ())).1.wrong : Int) = (wholeR g (feedS g fed t d.text).1).wrong))) 17 rfl (wt0 rfl) rfl rfl rfl (by kernel_rfl) (by kernel_rfl) (by kernel_rfl) (by kernel_rfl) (fun wx => x_move rfl rfl) ?_
          refine y_pure (v := .pointer (some ⟨gr, 0, none⟩)) 18 rfl (wt1 rfl rfl rfl rfl (nf hag1.wrong)) rfl rfl rfl (by kernel_rfl) (by kernel_rfl) (by kernel_rfl) (by kernel_rfl) (fun wx => x_move rfl rfl) ?_
          refine y_pure (v := .pointer (some ⟨gw, 0, none⟩)) 20 rfl (wt1 rfl rfl rfl rfl (nf hag1.wrong)) rfl rfl rfl (by kernel_rfl) (by kernel_rfl) (by kernel_rfl) (by kernel_rfl) (fun wx => x_move rfl rfl) ?_
          refine y_one (i := 19) (by kernel_rfl) rfl ?_
          refine s_call (wt1 rfl rfl rfl rfl (nf hag1.wrong)) (x_call' rfl rfl cl34) (wait_p gr _ _ _ _ (H62.cell (k := 1) rfl rfl)) ?_
          rintro _ wq63 ⟨rfl, H64⟩
          replace H64 : S wq63 [Ob g54 (.cells (if (feedR rr d.text).1.told = true then (feedR rr d.text).1.hello else Hs.zero).cells 23 (0, 0)), Ob gr (.cells #[.slice p48 (((feedR rr d.text).1, ())).1.ms.length c49, .slice p50 (((feedR rr d.text).1, ())).1.ms.length c51, .int .i64 ((((feedR rr d.text).1, ())).1.bytes), .bool ((((feedR rr d.text).1, ())).1.greet), .bool ((((feedR rr d.text).1, ())).1.hello.e), .bool ((((feedR rr d.text).1, ())).1.hello.f), .bool ((((feedR rr d.text).1, ())).1.hello.n), .string ((((feedR rr d.text).1, ())).1.hello.name), .string ((((feedR rr d.text).1, ())).1.hello.peer), .bool ((((feedR rr d.text).1, ())).1.told), .string ((((feedR rr d.text).1, ())).1.left), .int .i64 ((((feedR rr d.text).1, ())).1.done), .int .i64 ((((feedR rr d.text).1, ())).1.wrong)] 108 (0, 0)), Rw 33 8 p48 (((feedR rr d.text).1, ())).1.ms.length c49 (msgsV (((feedR rr d.text).1, ())).1.ms), Rw 3 1 p50 (((feedR rr d.text).1, ())).1.ms.length c51 (zsV (((feedR rr d.text).1, ())).1.zs), Ob g43 (.cells #[.bool ((wholeR g (feedS g fed t d.text).1).hello.e), .bool ((wholeR g (feedS g fed t d.text).1).hello.f), .bool ((wholeR g (feedS g fed t d.text).1).hello.n), .string ((wholeR g (feedS g fed t d.text).1).hello.name), .string ((wholeR g (feedS g fed t d.text).1).hello.peer), .bool ((wholeR g (feedS g fed t d.text).1).greets), .slice p37 (wholeR g (feedS g fed t d.text).1).list.length c38, .slice p39 (wholeR g (feedS g fed t d.text).1).ends.length c40, .int .i64 ((wholeR g (feedS g fed t d.text).1).start), .int .i64 ((wholeR g (feedS g fed t d.text).1).wrong)] 62 (0, 0)), Rw 33 8 p37 (wholeR g (feedS g fed t d.text).1).list.length c38 (msgsV (wholeR g (feedS g fed t d.text).1).list), Rw 3 1 p39 (wholeR g (feedS g fed t d.text).1).ends.length c40 (zsV (wholeR g (feedS g fed t d.text).1).ends), Ob gw (.cells #[.bool g, .string ((feedS g fed t d.text).1), .int .i64 ((t : Int))] 113 (0, 0)), Ob g22 (.cells #[.string (d.text), .int .i64 (d.take)] 57 (0, 0)), Old w no] := H62.absorb (new := []) H64
          refine b_ret rfl rfl ?_
          refine y_k (H64.mask [true, false, false, false, true, false, false, false, false, false]) (H64.mask [true, false, false, false, true, false, false, false, false, false]) ?_
          refine y_one (i := 21) (by kernel_rfl) rfl ?_
          refine s_call (wt1 rfl rfl rfl rfl (nf hag1.wrong)) (x_call' rfl rfl cl41) (wait_r gw g ((feedS g fed t d.text).1) t (by omega) hag1.taken _ (H64.cell (k := 7) rfl rfl) (H64.cell (k := 7) rfl rfl) (H64.cell (k := 7) rfl rfl)) ?_
          rintro _ wq65 ⟨rfl, H66⟩
          replace H66 : S wq65 [Ob g54 (.cells (if (feedR rr d.text).1.told = true then (feedR rr d.text).1.hello else Hs.zero).cells 23 (0, 0)), Ob gr (.cells #[.slice p48 (((feedR rr d.text).1, ())).1.ms.length c49, .slice p50 (((feedR rr d.text).1, ())).1.ms.length c51, .int .i64 ((((feedR rr d.text).1, ())).1.bytes), .bool ((((feedR rr d.text).1, ())).1.greet), .bool ((((feedR rr d.text).1, ())).1.hello.e), .bool ((((feedR rr d.text).1, ())).1.hello.f), .bool ((((feedR rr d.text).1, ())).1.hello.n), .string ((((feedR rr d.text).1, ())).1.hello.name), .string ((((feedR rr d.text).1, ())).1.hello.peer), .bool ((((feedR rr d.text).1, ())).1.told), .string ((((feedR rr d.text).1, ())).1.left), .int .i64 ((((feedR rr d.text).1, ())).1.done), .int .i64 ((((feedR rr d.text).1, ())).1.wrong)] 108 (0, 0)), Rw 33 8 p48 (((feedR rr d.text).1, ())).1.ms.length c49 (msgsV (((feedR rr d.text).1, ())).1.ms), Rw 3 1 p50 (((feedR rr d.text).1, ())).1.ms.length c51 (zsV (((feedR rr d.text).1, ())).1.zs), Ob g43 (.cells #[.bool ((wholeR g (feedS g fed t d.text).1).hello.e), .bool ((wholeR g (feedS g fed t d.text).1).hello.f), .bool ((wholeR g (feedS g fed t d.text).1).hello.n), .string ((wholeR g (feedS g fed t d.text).1).hello.name), .string ((wholeR g (feedS g fed t d.text).1).hello.peer), .bool ((wholeR g (feedS g fed t d.text).1).greets), .slice p37 (wholeR g (feedS g fed t d.text).1).list.length c38, .slice p39 (wholeR g (feedS g fed t d.text).1).ends.length c40, .int .i64 ((wholeR g (feedS g fed t d.text).1).start), .int .i64 ((wholeR g (feedS g fed t d.text).1).wrong)] 62 (0, 0)), Rw 33 8 p37 (wholeR g (feedS g fed t d.text).1).list.length c38 (msgsV (wholeR g (feedS g fed t d.text).1).list), Rw 3 1 p39 (wholeR g (feedS g fed t d.text).1).ends.length c40 (zsV (wholeR g (feedS g fed t d.text).1).ends), Ob gw (.cells #[.bool g, .string ((feedS g fed t d.text).1), .int .i64 ((t : Int))] 113 (0, 0)), Ob g22 (.cells #[.string (d.text), .int .i64 (d.take)] 57 (0, 0)), Old w no] := H64.absorb (new := []) H66
          refine b_ret rfl rfl ?_
          refine y_k (H66.mask [true, false, false, false, true, false, false, false, false, false]) (H66.mask [true, false, false, false, true, false, false, false, false, false]) ?_
          refine y_pure (v := .bool (!decide ((((((feedR rr d.text).1, ())).1.ms.length : Int) : Int) = ((wholeR g ((feedS g fed t d.text).1)).list.length : Int) - (t : Int)))) 22 rfl (wt1 rfl rfl rfl rfl (nf hag1.wrong)) rfl rfl rfl (by kernel_rfl) (by kernel_rfl) (by kernel_rfl) (by kernel_rfl) (fun wx => x_bin rfl rfl rfl b_neq) ?_
          refine y_pure (v := .bool (!decide ((((((feedR rr d.text).1, ())).1.ms.length : Int) : Int) = ((wholeR g ((feedS g fed t d.text).1)).list.length : Int) - (t : Int)))) 23 rfl (wt0 rfl) rfl rfl rfl (by kernel_rfl) (by kernel_rfl) (by kernel_rfl) (by kernel_rfl) (fun wx => x_pick_f rfl rfl (nf hag1.wrong) rfl) ?_
          refine y_pure (v := .bool (!decide ((((((feedR rr d.text).1, ())).1.ms.length : Int) : Int) = ((wholeR g ((feedS g fed t d.text).1)).list.length : Int) - (t : Int)))) 24 rfl (wt0 rfl) rfl rfl rfl (by kernel_rfl) (by kernel_rfl) (by kernel_rfl) (by kernel_rfl) (fun wx => x_move rfl rfl) ?_
          refine y_pure (v := .pointer (some ⟨gr, 0, none⟩)) 25 rfl (wt1 rfl rfl rfl rfl (nf hag1.waits)) rfl rfl rfl (by kernel_rfl) (by kernel_rfl) (by kernel_rfl) (by kernel_rfl) (fun wx => x_move rfl rfl) ?_
          refine y_pure (v := .pointer (some ⟨gw, 0, none⟩)) 27 rfl (wt1 rfl rfl rfl rfl (nf hag1.waits)) rfl rfl rfl (by kernel_rfl) (by kernel_rfl) (by kernel_rfl) (by kernel_rfl) (fun wx => x_move rfl rfl) ?_
          refine y_one (i := 26) (by kernel_rfl) rfl ?_
          refine s_call (wt1 rfl rfl rfl rfl (nf hag1.waits)) (x_call' rfl rfl cl42) (left_w gr _ _ (H66.cell (k := 1) rfl rfl)) ?_
          rintro _ wq67 ⟨rfl, H68⟩
          replace H68 : S wq67 [Ob g54 (.cells (if (feedR rr d.text).1.told = true then (feedR rr d.text).1.hello else Hs.zero).cells 23 (0, 0)), Ob gr (.cells #[.slice p48 (((feedR rr d.text).1, ())).1.ms.length c49, .slice p50 (((feedR rr d.text).1, ())).1.ms.length c51, .int .i64 ((((feedR rr d.text).1, ())).1.bytes), .bool ((((feedR rr d.text).1, ())).1.greet), .bool ((((feedR rr d.text).1, ())).1.hello.e), .bool ((((feedR rr d.text).1, ())).1.hello.f), .bool ((((feedR rr d.text).1, ())).1.hello.n), .string ((((feedR rr d.text).1, ())).1.hello.name), .string ((((feedR rr d.text).1, ())).1.hello.peer), .bool ((((feedR rr d.text).1, ())).1.told), .string ((((feedR rr d.text).1, ())).1.left), .int .i64 ((((feedR rr d.text).1, ())).1.done), .int .i64 ((((feedR rr d.text).1, ())).1.wrong)] 108 (0, 0)), Rw 33 8 p48 (((feedR rr d.text).1, ())).1.ms.length c49 (msgsV (((feedR rr d.text).1, ())).1.ms), Rw 3 1 p50 (((feedR rr d.text).1, ())).1.ms.length c51 (zsV (((feedR rr d.text).1, ())).1.zs), Ob g43 (.cells #[.bool ((wholeR g (feedS g fed t d.text).1).hello.e), .bool ((wholeR g (feedS g fed t d.text).1).hello.f), .bool ((wholeR g (feedS g fed t d.text).1).hello.n), .string ((wholeR g (feedS g fed t d.text).1).hello.name), .string ((wholeR g (feedS g fed t d.text).1).hello.peer), .bool ((wholeR g (feedS g fed t d.text).1).greets), .slice p37 (wholeR g (feedS g fed t d.text).1).list.length c38, .slice p39 (wholeR g (feedS g fed t d.text).1).ends.length c40, .int .i64 ((wholeR g (feedS g fed t d.text).1).start), .int .i64 ((wholeR g (feedS g fed t d.text).1).wrong)] 62 (0, 0)), Rw 33 8 p37 (wholeR g (feedS g fed t d.text).1).list.length c38 (msgsV (wholeR g (feedS g fed t d.text).1).list), Rw 3 1 p39 (wholeR g (feedS g fed t d.text).1).ends.length c40 (zsV (wholeR g (feedS g fed t d.text).1).ends), Ob gw (.cells #[.bool g, .string ((feedS g fed t d.text).1), .int .i64 ((t : Int))] 113 (0, 0)), Ob g22 (.cells #[.string (d.text), .int .i64 (d.take)] 57 (0, 0)), Old w no] := H66.absorb (new := []) H68
          refine b_ret rfl rfl ?_
          refine y_k (H68.mask [true, false, false, false, true, false, false, false, false, false]) (H68.mask [true, false, false, false, true, false, false, false, false, false]) ?_
          refine y_one (i := 28) (by kernel_rfl) rfl ?_
          refine s_call (wt1 rfl rfl rfl rfl (nf hag1.waits)) (x_call' rfl rfl cl43) (left_r gw g ((feedS g fed t d.text).1) (by omega) _ (H68.cell (k := 7) rfl rfl) (H68.cell (k := 7) rfl rfl)) ?_
          rintro _ wq69 ⟨rfl, H70⟩
          replace H70 : S wq69 [Ob g54 (.cells (if (feedR rr d.text).1.told = true then (feedR rr d.text).1.hello else Hs.zero).cells 23 (0, 0)), Ob gr (.cells #[.slice p48 (((feedR rr d.text).1, ())).1.ms.length c49, .slice p50 (((feedR rr d.text).1, ())).1.ms.length c51, .int .i64 ((((feedR rr d.text).1, ())).1.bytes), .bool ((((feedR rr d.text).1, ())).1.greet), .bool ((((feedR rr d.text).1, ())).1.hello.e), .bool ((((feedR rr d.text).1, ())).1.hello.f), .bool ((((feedR rr d.text).1, ())).1.hello.n), .string ((((feedR rr d.text).1, ())).1.hello.name), .string ((((feedR rr d.text).1, ())).1.hello.peer), .bool ((((feedR rr d.text).1, ())).1.told), .string ((((feedR rr d.text).1, ())).1.left), .int .i64 ((((feedR rr d.text).1, ())).1.done), .int .i64 ((((feedR rr d.text).1, ())).1.wrong)] 108 (0, 0)), Rw 33 8 p48 (((feedR rr d.text).1, ())).1.ms.length c49 (msgsV (((feedR rr d.text).1, ())).1.ms), Rw 3 1 p50 (((feedR rr d.text).1, ())).1.ms.length c51 (zsV (((feedR rr d.text).1, ())).1.zs), Ob g43 (.cells #[.bool ((wholeR g (feedS g fed t d.text).1).hello.e), .bool ((wholeR g (feedS g fed t d.text).1).hello.f), .bool ((wholeR g (feedS g fed t d.text).1).hello.n), .string ((wholeR g (feedS g fed t d.text).1).hello.name), .string ((wholeR g (feedS g fed t d.text).1).hello.peer), .bool ((wholeR g (feedS g fed t d.text).1).greets), .slice p37 (wholeR g (feedS g fed t d.text).1).list.length c38, .slice p39 (wholeR g (feedS g fed t d.text).1).ends.length c40, .int .i64 ((wholeR g (feedS g fed t d.text).1).start), .int .i64 ((wholeR g (feedS g fed t d.text).1).wrong)] 62 (0, 0)), Rw 33 8 p37 (wholeR g (feedS g fed t d.text).1).list.length c38 (msgsV (wholeR g (feedS g fed t d.text).1).list), Rw 3 1 p39 (wholeR g (feedS g fed t d.text).1).ends.length c40 (zsV (wholeR g (feedS g fed t d.text).1).ends), Ob gw (.cells #[.bool g, .string ((feedS g fed t d.text).1), .int .i64 ((t : Int))] 113 (0, 0)), Ob g22 (.cells #[.string (d.text), .int .i64 (d.take)] 57 (0, 0)), Old w no] := H68.absorb (new := []) H70
          refine b_ret rfl rfl ?_
          refine y_k (H70.mask [true, false, false, false, true, false, false, false, false, false]) (H70.mask [true, false, false, false, true, false, false, false, false, false]) ?_
          refine y_pure (v := .bool (!decide (((((((feedR rr d.text).1, ())).1.left).size : Int) : Int) = (leftS g ((feedS g fed t d.text).1))))) 29 rfl (wt1 rfl rfl rfl rfl (nf hag1.waits)) rfl rfl rfl (by kernel_rfl) (by kernel_rfl) (by kernel_rfl) (by kernel_rfl) (fun wx => x_bin rfl rfl rfl b_neq) ?_
          refine y_pure (v := .bool (!decide (((((((feedR rr d.text).1, ())).1.left).size : Int) : Int) = (leftS g ((feedS g fed t d.text).1))))) 30 rfl (wt0 rfl) rfl rfl rfl (by kernel_rfl) (by kernel_rfl) (by kernel_rfl) (by kernel_rfl) (fun wx => x_pick_f rfl rfl (nf hag1.waits) rfl) ?_
          refine y_done (by kernel_rfl) ?_
          refine g_then ?_
          refine g_weak [(8, .pointer (some ⟨gr, 0, none⟩)), (9, .pointer (some ⟨gw, 0, none⟩)), (11, .pointer (some ⟨g22, 0, none⟩)), (44, .slice p n c), (45, .int .i64 ((n : Int))), (46, .int .i64 ((j : Int))), (71, .bool ((feedR rr d.text).1.told)), (72, .pointer (some ⟨g43, 5, none⟩)), (73, .bool ((wholeR g (feedS g fed t d.text).1).greets)), (74, .bool (!(((feedR rr d.text).1.told) == ((wholeR g (feedS g fed t d.text).1).greets)))), (77, .pointer (some ⟨gr, 0, none⟩)), (78, .int .i64 ((((feedR rr d.text).1, ())).1.wrong)), (79, .pointer (some ⟨g43, 9, none⟩)), (80, .int .i64 ((wholeR g (feedS g fed t d.text).1).wrong)), (81, .bool (!decide (((((feedR rr d.text).1, ())).1.wrong : Int) = (wholeR g (feedS g fed t d.text).1).wrong))), (84, .pointer (some ⟨gr, 0, none⟩)), (85, .int .i64 (((((feedR rr d.text).1, ())).1.ms.length : Int))), (86, .pointer (some ⟨gw, 0, none⟩)), (87, .int .i64 (((wholeR g ((feedS g fed t d.text).1)).list.length : Int) - (t : Int))), (88, .bool (!decide ((((((feedR rr d.text).1, ())).1.ms.length : Int) : Int) = ((wholeR g ((feedS g fed t d.text).1)).list.length : Int) - (t : Int)))), (91, .pointer (some ⟨gr, 0, none⟩)), (92, .int .i64 ((((((feedR rr d.text).1, ())).1.left).size : Int))), (93, .pointer (some ⟨gw, 0, none⟩)), (94, .int .i64 ((leftS g ((feedS g fed t d.text).1)))), (95, .bool (!decide (((((((feedR rr d.text).1, ())).1.left).size : Int) : Int) = (leftS g ((feedS g fed t d.text).1))))), (96, .bool (!decide (((((((feedR rr d.text).1, ())).1.left).size : Int) : Int) = (leftS g ((feedS g fed t d.text).1)))))] ⟨rfl, rfl, rfl, rfl, rfl, rfl, rfl, rfl, rfl, rfl, rfl, rfl, rfl, rfl, rfl, rfl, rfl, rfl, rfl, rfl, rfl, rfl, rfl, rfl, rfl, rfl, trivial⟩ ?_
          refine g_cond_f rfl (nf hag1.left) ?_
          refine g_skip ?_
          refine g_then ?_
          refine g_seq ?_
          refine g_region ?_
          refine l_of (s_val (v := .int .i64 0) (wt0 rfl) rfl rfl (x_assign rfl rfl) ?_)
          refine g_nil ?_
          refine g_then ?_
          refine g_block ?_
          refine g_loop (ι := Nat × Rdr × Option Addr × Nat × Option Addr × Nat × Nat) (fun (k, rs, q3, d3, q4, d4, u) => [(8, .pointer (some ⟨gr, 0, none⟩)), (9, .pointer (some ⟨gw, 0, none⟩)), (11, .pointer (some ⟨g22, 0, none⟩)), (15, .int .i64 ((k : Int))), (44, .slice p n c), (45, .int .i64 ((n : Int))), (46, .int .i64 ((j : Int))), (71, .bool ((feedR rr d.text).1.told)), (72, .pointer (some ⟨g43, 5, none⟩)), (73, .bool ((wholeR g (feedS g fed t d.text).1).greets)), (74, .bool (!(((feedR rr d.text).1.told) == ((wholeR g (feedS g fed t d.text).1).greets)))), (77, .pointer (some ⟨gr, 0, none⟩)), (78, .int .i64 ((((feedR rr d.text).1, ())).1.wrong)), (79, .pointer (some ⟨g43, 9, none⟩)), (80, .int .i64 ((wholeR g (feedS g fed t d.text).1).wrong)), (81, .bool (!decide (((((feedR rr d.text).1, ())).1.wrong : Int) = (wholeR g (feedS g fed t d.text).1).wrong))), (84, .pointer (some ⟨gr, 0, none⟩)), (85, .int .i64 (((((feedR rr d.text).1, ())).1.ms.length : Int))), (86, .pointer (some ⟨gw, 0, none⟩)), (87, .int .i64 (((wholeR g ((feedS g fed t d.text).1)).list.length : Int) - (t : Int))), (88, .bool (!decide ((((((feedR rr d.text).1, ())).1.ms.length : Int) : Int) = ((wholeR g ((feedS g fed t d.text).1)).list.length : Int) - (t : Int)))), (91, .pointer (some ⟨gr, 0, none⟩)), (92, .int .i64 ((((((feedR rr d.text).1, ())).1.left).size : Int))), (93, .pointer (some ⟨gw, 0, none⟩)), (94, .int .i64 ((leftS g ((feedS g fed t d.text).1)))), (95, .bool (!decide (((((((feedR rr d.text).1, ())).1.left).size : Int) : Int) = (leftS g ((feedS g fed t d.text).1)))))]) (fun (k, rs, q3, d3, q4, d4, u) wx => (k ≤ 40) ∧ (rs.Ok (65536 * j + 65536)) ∧ (Agree rs g (feedS g fed t d.text).1 u) ∧ S wx [Ob gr (.cells #[.slice q3 rs.ms.length d3, .slice q4 rs.ms.length d4, .int .i64 (rs.bytes), .bool rs.greet, .bool rs.hello.e, .bool rs.hello.f, .bool rs.hello.n, .string (rs.hello.name), .string (rs.hello.peer), .bool rs.told, .string (rs.left), .int .i64 (rs.done), .int .i64 (rs.wrong)] 108 (0, 0)), Rw 33 8 q3 rs.ms.length d3 (msgsV rs.ms), Rw 3 1 q4 rs.ms.length d4 (zsV rs.zs), Ob gw (.cells #[.bool g, .string ((feedS g fed t d.text).1), .int .i64 ((u : Int))] 113 (0, 0)), Ob g22 (.cells #[.string (d.text), .int .i64 (d.take)] 57 (0, 0)), Old w no]) (fun (k, rs, q3, d3, q4, d4, u) => 40 - k) (0, (feedR rr d.text).1, p48, c49, p50, c51, t) ⟨rfl, rfl, rfl, rfl, rfl, rfl, rfl, rfl, rfl, rfl, rfl, rfl, rfl, rfl, rfl, rfl, rfl, rfl, rfl, rfl, rfl, rfl, rfl, rfl, rfl, rfl, trivial⟩ ⟨by omega, hok1, hag1, (H70.takes [1, 2, 3, 7, 8, 9] (by decide))⟩ ?_
          rintro ⟨k, rs, q3, d3, q4, d4, u⟩ wq71 ⟨hk, hok2, hag2, H72⟩
          replace H72 : S wq71 [Ob gr (.cells #[.slice q3 rs.ms.length d3, .slice q4 rs.ms.length d4, .int .i64 (rs.bytes), .bool rs.greet, .bool rs.hello.e, .bool rs.hello.f, .bool rs.hello.n, .string (rs.hello.name), .string (rs.hello.peer), .bool rs.told, .string (rs.left), .int .i64 (rs.done), .int .i64 (rs.wrong)] 108 (0, 0)), Rw 33 8 q3 rs.ms.length d3 (msgsV rs.ms), Rw 3 1 q4 rs.ms.length d4 (zsV rs.zs), Ob gw (.cells #[.bool g, .string ((feedS g fed t d.text).1), .int .i64 ((u : Int))] 113 (0, 0)), Ob g22 (.cells #[.string (d.text), .int .i64 (d.take)] 57 (0, 0)), Old w no] := H72
          refine g_weak [(8, .pointer (some ⟨gr, 0, none⟩)), (9, .pointer (some ⟨gw, 0, none⟩)), (11, .pointer (some ⟨g22, 0, none⟩)), (15, .int .i64 ((k : Int))), (44, .slice p n c), (45, .int .i64 ((n : Int))), (46, .int .i64 ((j : Int))), (71, .bool ((feedR rr d.text).1.told)), (72, .pointer (some ⟨g43, 5, none⟩)), (73, .bool ((wholeR g (feedS g fed t d.text).1).greets)), (74, .bool (!(((feedR rr d.text).1.told) == ((wholeR g (feedS g fed t d.text).1).greets)))), (77, .pointer (some ⟨gr, 0, none⟩)), (78, .int .i64 ((((feedR rr d.text).1, ())).1.wrong)), (79, .pointer (some ⟨g43, 9, none⟩)), (80, .int .i64 ((wholeR g (feedS g fed t d.text).1).wrong)), (81, .bool (!decide (((((feedR rr d.text).1, ())).1.wrong : Int) = (wholeR g (feedS g fed t d.text).1).wrong))), (84, .pointer (some ⟨gr, 0, none⟩)), (85, .int .i64 (((((feedR rr d.text).1, ())).1.ms.length : Int))), (86, .pointer (some ⟨gw, 0, none⟩)), (87, .int .i64 (((wholeR g ((feedS g fed t d.text).1)).list.length : Int) - (t : Int))), (88, .bool (!decide ((((((feedR rr d.text).1, ())).1.ms.length : Int) : Int) = ((wholeR g ((feedS g fed t d.text).1)).list.length : Int) - (t : Int)))), (91, .pointer (some ⟨gr, 0, none⟩)), (92, .int .i64 ((((((feedR rr d.text).1, ())).1.left).size : Int))), (93, .pointer (some ⟨gw, 0, none⟩)), (94, .int .i64 ((leftS g ((feedS g fed t d.text).1)))), (95, .bool (!decide (((((((feedR rr d.text).1, ())).1.left).size : Int) : Int) = (leftS g ((feedS g fed t d.text).1)))))] ⟨rfl, rfl, rfl, rfl, rfl, rfl, rfl, rfl, rfl, rfl, rfl, rfl, rfl, rfl, rfl, rfl, rfl, rfl, rfl, rfl, rfl, rfl, rfl, rfl, rfl, rfl, trivial⟩ ?_
          obtain ⟨hnx1, hnx2, hnx3⟩ := agree_next hok2 hag2
          refine g_seq ?_
          refine g_seq ?_
          refine g_region ?_
          refine l_of (s_val (v := .int .i64 ((k : Int))) (wt0 rfl) rfl rfl (x_move rfl rfl) ?_)
          refine l_of (s_val (v := .pointer (some ⟨g22, 1, none⟩)) (wt0 rfl) rfl rfl (x_fieldAddr rfl rfl fo57_1 rfl) ?_)
          refine l_of (s_val (v := .int .i64 (d.take)) (wt0 rfl) rfl rfl (x_load1 H72 4 rfl rfl Try.underlying3 rfl rfl rfl) ?_)
          refine l_of (s_val (v := .bool (decide (((k : Int) : Int) < d.take))) (wt0 rfl) rfl rfl (x_bin rfl rfl rfl b_lss) ?_)
          refine l_of (s_val (v := .bool (decide (((k : Int) : Int) < d.take))) (wt0 rfl) rfl rfl (x_move rfl rfl) ?_)
          by_cases hb73 : ((k : Int) : Int) < d.take
          · skip
            refine l_of (s_val (v := .int .i64 ((k : Int))) (wt1 rfl rfl rfl rfl (decide_eq_true hb73)) rfl rfl (x_move rfl rfl) ?_)
            refine l_of (s_val (v := .bool (decide (((k : Int) : Int) < 40))) (wt1 rfl rfl rfl rfl (decide_eq_true hb73)) rfl rfl (x_bin rfl rfl rfl b_lss) ?_)
            refine l_of (s_val (v := .bool (decide (((k : Int) : Int) < 40))) (wt0 rfl) rfl rfl (x_pick_t rfl rfl (decide_eq_true hb73) rfl) ?_)
            refine g_nil ?_
            refine g_then ?_
            by_cases hb74 : ((k : Int) : Int) < 40
            · skip
              refine g_cond_t rfl (decide_eq_true hb74) ?_
              refine g_skip ?_
              refine g_then ?_
              refine g_seq ?_
              refine g_block ?_
              refine g_seq ?_
              refine g_region ?_
              refine l_of (s_val (v := .pointer (some ⟨gr, 0, none⟩)) (wt0 rfl) rfl rfl (x_move rfl rfl) ?_)
              refine l_of (s_call (wt0 rfl) (x_call' rfl rfl cl35) (next_p gr rs (hok2) q3 q4 d3 d4 _ (H72.takes [0, 1, 2] (by decide))) ?_)
              rintro _ wq79 ⟨rfl, p75, c76, p77, c78, H80⟩
              replace H80 : S wq79 [Ob gr (.cells #[.slice p75 (nextR rs).1.ms.length c76, .slice p77 (nextR rs).1.ms.length c78, .int .i64 ((nextR rs).1.bytes), .bool ((nextR rs).1.greet), .bool ((nextR rs).1.hello.e), .bool ((nextR rs).1.hello.f), .bool ((nextR rs).1.hello.n), .string ((nextR rs).1.hello.name), .string ((nextR rs).1.hello.peer), .bool ((nextR rs).1.told), .string ((nextR rs).1.left), .int .i64 ((nextR rs).1.done), .int .i64 ((nextR rs).1.wrong)] 108 (0, 0)), Rw 33 8 p75 (nextR rs).1.ms.length c76 (msgsV (nextR rs).1.ms), Rw 3 1 p77 (nextR rs).1.ms.length c78 (zsV (nextR rs).1.zs), Ob gw (.cells #[.bool g, .string ((feedS g fed t d.text).1), .int .i64 ((u : Int))] 113 (0, 0)), Ob g22 (.cells #[.string (d.text), .int .i64 (d.take)] 57 (0, 0)), Old w no] := H72.absorbI (new := [Ob gr (.cells #[.slice p75 (nextR rs).1.ms.length c76, .slice p77 (nextR rs).1.ms.length c78, .int .i64 ((nextR rs).1.bytes), .bool ((nextR rs).1.greet), .bool ((nextR rs).1.hello.e), .bool ((nextR rs).1.hello.f), .bool ((nextR rs).1.hello.n), .string ((nextR rs).1.hello.name), .string ((nextR rs).1.hello.peer), .bool ((nextR rs).1.told), .string ((nextR rs).1.left), .int .i64 ((nextR rs).1.done), .int .i64 ((nextR rs).1.wrong)] 108 (0, 0)), Rw 33 8 p75 (nextR rs).1.ms.length c76 (msgsV (nextR rs).1.ms), Rw 3 1 p77 (nextR rs).1.ms.length c78 (zsV (nextR rs).1.zs)]) [0, 1, 2] H80
              refine b_ret rfl rfl ?_
              refine l_of (s_val (v := .tuple #[.agg (nextR rs).2.1.cells, .bool ((nextR rs).2.2)]) (wt0 rfl) rfl rfl (x_move rfl rfl) ?_)
              refine l_of (s_val (v := .agg (nextR rs).2.1.cells) (wt0 rfl) rfl rfl (x_extract rfl rfl rfl) ?_)
              refine l_of (s_val (v := .bool ((nextR rs).2.2)) (wt0 rfl) rfl rfl (x_extract rfl rfl rfl) ?_)
              refine l_of (s_alloc H80 (wt0 rfl) rfl rfl rfl ze33 ?_)
              intro g81 wq82 H83
              refine l_of (s_store H83 0 (wt0 rfl) rfl rfl rfl rfl rfl sz33 rfl rfl (cs' := (nextR rs).2.1.cells) rfl ?_)
              intro wq84 H85
              refine l_of (s_val (v := .bool ((nextR rs).2.2)) (wt0 rfl) rfl rfl (x_assign rfl rfl) ?_)
              refine g_nil ?_
              refine g_then ?_
              refine g_weak [(8, .pointer (some ⟨gr, 0, none⟩)), (9, .pointer (some ⟨gw, 0, none⟩)), (11, .pointer (some ⟨g22, 0, none⟩)), (15, .int .i64 ((k : Int))), (16, .pointer (some ⟨g81, 0, none⟩)), (17, .bool ((nextR rs).2.2)), (44, .slice p n c), (45, .int .i64 ((n : Int))), (46, .int .i64 ((j : Int))), (71, .bool ((feedR rr d.text).1.told)), (72, .pointer (some ⟨g43, 5, none⟩)), (73, .bool ((wholeR g (feedS g fed t d.text).1).greets)), (74, .bool (!(((feedR rr d.text).1.told) == ((wholeR g (feedS g fed t d.text).1).greets)))), (77, .pointer (some ⟨gr, 0, none⟩)), (78, .int .i64 ((((feedR rr d.text).1, ())).1.wrong)), (79, .pointer (some ⟨g43, 9, none⟩)), (80, .int .i64 ((wholeR g (feedS g fed t d.text).1).wrong)), (81, .bool (!decide (((((feedR rr d.text).1, ())).1.wrong : Int) = (wholeR g (feedS g fed t d.text).1).wrong))), (84, .pointer (some ⟨gr, 0, none⟩)), (85, .int .i64 (((((feedR rr d.text).1, ())).1.ms.length : Int))), (86, .pointer (some ⟨gw, 0, none⟩)), (87, .int .i64 (((wholeR g ((feedS g fed t d.text).1)).list.length : Int) - (t : Int))), (88, .bool (!decide ((((((feedR rr d.text).1, ())).1.ms.length : Int) : Int) = ((wholeR g ((feedS g fed t d.text).1)).list.length : Int) - (t : Int)))), (91, .pointer (some ⟨gr, 0, none⟩)), (92, .int .i64 ((((((feedR rr d.text).1, ())).1.left).size : Int))), (93, .pointer (some ⟨gw, 0, none⟩)), (94, .int .i64 ((leftS g ((feedS g fed t d.text).1)))), (95, .bool (!decide (((((((feedR rr d.text).1, ())).1.left).size : Int) : Int) = (leftS g ((feedS g fed t d.text).1)))))] ⟨rfl, rfl, rfl, rfl, rfl, rfl, rfl, rfl, rfl, rfl, rfl, rfl, rfl, rfl, rfl, rfl, rfl, rfl, rfl, rfl, rfl, rfl, rfl, rfl, rfl, rfl, rfl, rfl, trivial⟩ ?_
              refine g_seq ?_
              refine g_region ?_
              refine l_of (s_val (v := .pointer (some ⟨gw, 0, none⟩)) (wt0 rfl) rfl rfl (x_move rfl rfl) ?_)
              refine l_of (s_call (wt0 rfl) (x_call' rfl rfl cl44) (next_r gw g ((feedS g fed t d.text).1) u (by omega) hag2.taken _ (H85.takes [4] (by decide))) ?_)
              rintro _ wq86 ⟨rfl, H87⟩
              replace H87 : S wq86 [Ob gw (.cells #[.bool g, .string (((feedS g fed t d.text).1)), .int .i64 (((nextS g ((feedS g fed t d.text).1) u).1 : Int))] 113 (0, 0)), Ob g81 (.cells (nextR rs).2.1.cells 33 (0, 0)), Ob gr (.cells #[.slice p75 (nextR rs).1.ms.length c76, .slice p77 (nextR rs).1.ms.length c78, .int .i64 ((nextR rs).1.bytes), .bool ((nextR rs).1.greet), .bool ((nextR rs).1.hello.e), .bool ((nextR rs).1.hello.f), .bool ((nextR rs).1.hello.n), .string ((nextR rs).1.hello.name), .string ((nextR rs).1.hello.peer), .bool ((nextR rs).1.told), .string ((nextR rs).1.left), .int .i64 ((nextR rs).1.done), .int .i64 ((nextR rs).1.wrong)] 108 (0, 0)), Rw 33 8 p75 (nextR rs).1.ms.length c76 (msgsV (nextR rs).1.ms), Rw 3 1 p77 (nextR rs).1.ms.length c78 (zsV (nextR rs).1.zs), Ob g22 (.cells #[.string (d.text), .int .i64 (d.take)] 57 (0, 0)), Old w no] := H85.absorbI (new := [Ob gw (.cells #[.bool g, .string (((feedS g fed t d.text).1)), .int .i64 (((nextS g ((feedS g fed t d.text).1) u).1 : Int))] 113 (0, 0))]) [4] H87
              refine b_ret rfl rfl ?_
              refine l_of (s_val (v := .tuple #[.agg (nextS g ((feedS g fed t d.text).1) u).2.1.cells, .bool ((nextS g ((feedS g fed t d.text).1) u).2.2)]) (wt0 rfl) rfl rfl (x_move rfl rfl) ?_)
              refine l_of (s_val (v := .agg (nextS g ((feedS g fed t d.text).1) u).2.1.cells) (wt0 rfl) rfl rfl (x_extract rfl rfl rfl) ?_)
              refine l_of (s_val (v := .bool ((nextS g ((feedS g fed t d.text).1) u).2.2)) (wt0 rfl) rfl rfl (x_extract rfl rfl rfl) ?_)
              refine l_of (s_alloc H87 (wt0 rfl) rfl rfl rfl ze33 ?_)
              intro g88 wq89 H90
              refine l_of (s_store H90 0 (wt0 rfl) rfl rfl rfl rfl rfl sz33 rfl rfl (cs' := (nextS g ((feedS g fed t d.text).1) u).2.1.cells) rfl ?_)
              intro wq91 H92
              refine l_of (s_val (v := .bool ((nextS g ((feedS g fed t d.text).1) u).2.2)) (wt0 rfl) rfl rfl (x_assign rfl rfl) ?_)
              refine g_nil ?_
              refine g_then ?_
              refine g_seq ?_
              refine g_region ?_
              refine l_of (s_val (v := .agg (nextR rs).2.1.cells) (wt0 rfl) rfl rfl (x_loadA H92 2 rfl rfl Try.underlying33 rfl sz33 rfl rfl rfl) ?_)
              refine l_of (s_val (v := .agg (nextS g ((feedS g fed t d.text).1) u).2.1.cells) (wt0 rfl) rfl rfl (x_loadA H92 0 rfl rfl Try.underlying33 rfl sz33 rfl rfl rfl) ?_)
              refine l_of (s_val (v := .bool (!decide ((nextR rs).2.1 = (nextS g ((feedS g fed t d.text).1) u).2.1))) (wt0 rfl) rfl rfl (x_bin rfl rfl rfl (b_msgN (nextR rs).2.1 (nextS g ((feedS g fed t d.text).1) u).2.1)) ?_)
              refine l_of (s_val (v := .bool (!decide ((nextR rs).2.1 = (nextS g ((feedS g fed t d.text).1) u).2.1))) (wt0 rfl) rfl rfl (x_move rfl rfl) ?_)
              refine l_of (s_val (v := .bool ((nextR rs).2.2)) (wt1 rfl rfl rfl rfl (nf hnx1)) rfl rfl (x_move rfl rfl) ?_)
              refine l_of (s_val (v := .bool ((nextS g ((feedS g fed t d.text).1) u).2.2)) (wt1 rfl rfl rfl rfl (nf hnx1)) rfl rfl (x_move rfl rfl) ?_)
              refine l_of (s_val (v := .bool (!(((nextR rs).2.2) == ((nextS g ((feedS g fed t d.text).1) u).2.2)))) (wt1 rfl rfl rfl rfl (nf hnx1)) rfl rfl (x_bin rfl rfl rfl (b_neN Try.underlying4 rfl)) ?_)
              refine l_of (s_val (v := .bool (!(((nextR rs).2.2) == ((nextS g ((feedS g fed t d.text).1) u).2.2)))) (wt0 rfl) rfl rfl (x_pick_f rfl rfl (nf hnx1) rfl) ?_)
              refine g_nil ?_
              refine g_then ?_
              refine g_weak [(8, .pointer (some ⟨gr, 0, none⟩)), (9, .pointer (some ⟨gw, 0, none⟩)), (11, .pointer (some ⟨g22, 0, none⟩)), (15, .int .i64 ((k : Int))), (44, .slice p n c), (45, .int .i64 ((n : Int))), (46, .int .i64 ((j : Int))), (71, .bool ((feedR rr d.text).1.told)), (72, .pointer (some ⟨g43, 5, none⟩)), (73, .bool ((wholeR g (feedS g fed t d.text).1).greets)), (74, .bool (!(((feedR rr d.text).1.told) == ((wholeR g (feedS g fed t d.text).1).greets)))), (77, .pointer (some ⟨gr, 0, none⟩)), (78, .int .i64 ((((feedR rr d.text).1, ())).1.wrong)), (79, .pointer (some ⟨g43, 9, none⟩)), (80, .int .i64 ((wholeR g (feedS g fed t d.text).1).wrong)), (81, .bool (!decide (((((feedR rr d.text).1, ())).1.wrong : Int) = (wholeR g (feedS g fed t d.text).1).wrong))), (84, .pointer (some ⟨gr, 0, none⟩)), (85, .int .i64 (((((feedR rr d.text).1, ())).1.ms.length : Int))), (86, .pointer (some ⟨gw, 0, none⟩)), (87, .int .i64 (((wholeR g ((feedS g fed t d.text).1)).list.length : Int) - (t : Int))), (88, .bool (!decide ((((((feedR rr d.text).1, ())).1.ms.length : Int) : Int) = ((wholeR g ((feedS g fed t d.text).1)).list.length : Int) - (t : Int)))), (91, .pointer (some ⟨gr, 0, none⟩)), (92, .int .i64 ((((((feedR rr d.text).1, ())).1.left).size : Int))), (93, .pointer (some ⟨gw, 0, none⟩)), (94, .int .i64 ((leftS g ((feedS g fed t d.text).1)))), (95, .bool (!decide (((((((feedR rr d.text).1, ())).1.left).size : Int) : Int) = (leftS g ((feedS g fed t d.text).1))))), (124, .bool (!(((nextR rs).2.2) == ((nextS g ((feedS g fed t d.text).1) u).2.2))))] ⟨rfl, rfl, rfl, rfl, rfl, rfl, rfl, rfl, rfl, rfl, rfl, rfl, rfl, rfl, rfl, rfl, rfl, rfl, rfl, rfl, rfl, rfl, rfl, rfl, rfl, rfl, rfl, trivial⟩ ?_
              refine g_cond_f rfl (by rw [hnx2]; simp) ?_
              refine g_skip ?_
              refine g_in ?_
              refine g_then ?_
              refine g_region ?_
              refine l_of (s_val (v := .int .i64 ((k : Int))) (wt0 rfl) rfl rfl (x_move rfl rfl) ?_)
              refine l_of (s_val (v := .int .i64 ((k : Int) + 1)) (wt0 rfl) rfl rfl (x_bin rfl rfl rfl (b_add (w64 (by omega)))) ?_)
              refine l_of (s_val (v := .int .i64 ((k : Int) + 1)) (wt0 rfl) rfl rfl (x_assign rfl rfl) ?_)
              refine g_nil ?_
              refine g_then ?_
              refine g_round (i := (k, rs, q3, d3, q4, d4, u)) (k + 1, (nextR rs).1, p75, c76, p77, c78, (nextS g (feedS g fed t d.text).1 u).1) ?_ ?_ ?_
              · exact ⟨rfl, rfl, rfl, rfl, rfl, rfl, rfl, rfl, rfl, rfl, rfl, rfl, rfl, rfl, rfl, rfl, rfl, rfl, rfl, rfl, rfl, rfl, rfl, rfl, rfl, rfl, trivial⟩
              · exact ⟨by omega, (next_ok hok2), hnx3, (H92.takes [3, 4, 5, 1, 6, 7] (by decide))⟩
              · (try dsimp only); omega
            · skip
              refine g_cond_f rfl (decide_eq_false hb74) ?_
              refine g_exit ?_
              refine g_then_exit ?_
              refine g_then_exit ?_
              refine g_in_hit ?_
              refine g_in ?_
              refine g_then ?_
              refine g_region ?_
              refine l_of (s_val (v := .int .i64 ((j : Int) + 1)) (wt0 rfl) rfl rfl (x_bin rfl rfl rfl (b_add (w64 (by omega)))) ?_)
              refine l_of (s_val (v := .int .i64 ((j : Int) + 1)) (wt0 rfl) rfl rfl (x_move rfl rfl) ?_)
              refine g_nil ?_
              refine g_then ?_
              refine g_round (i := (j, rr, q1, d1, q2, d2, fed, t)) (j + 1, rs, q3, d3, q4, d4, (feedS g fed t d.text).1, u) ?_ ?_ ?_
              · exact ⟨rfl, rfl, rfl, rfl, rfl, trivial⟩
              · exact ⟨by omega, (hok2.up (by omega) (by omega)), (by omega), hag2, (H72.takes [0, 1, 2, 3, 5] (by decide))⟩
              · (try dsimp only); omega
          · skip
            refine l_of (s_not (wn1 rfl rfl rfl rfl (decide_eq_false hb73)) rfl rfl ?_)
            refine l_of (s_not (wn1 rfl rfl rfl rfl (decide_eq_false hb73)) rfl rfl ?_)
            refine l_of (s_val (v := .bool false) (wt0 rfl) rfl rfl (x_pick_f rfl rfl (decide_eq_false hb73) rfl) ?_)
            refine g_nil ?_
            refine g_then ?_
            refine g_cond_f rfl rfl ?_
            refine g_exit ?_
            refine g_then_exit ?_
            refine g_then_exit ?_
            refine g_in_hit ?_
            refine g_in ?_
            refine g_then ?_
            refine g_region ?_
            refine l_of (s_val (v := .int .i64 ((j : Int) + 1)) (wt0 rfl) rfl rfl (x_bin rfl rfl rfl (b_add (w64 (by omega)))) ?_)
            refine l_of (s_val (v := .int .i64 ((j : Int) + 1)) (wt0 rfl) rfl rfl (x_move rfl rfl) ?_)
            refine g_nil ?_
            refine g_then ?_
            refine g_round (i := (j, rr, q1, d1, q2, d2, fed, t)) (j + 1, rs, q3, d3, q4, d4, (feedS g fed t d.text).1, u) ?_ ?_ ?_
            · exact ⟨rfl, rfl, rfl, rfl, rfl, trivial⟩
            · exact ⟨by omega, (hok2.up (by omega) (by omega)), (by omega), hag2, (H72.takes [0, 1, 2, 3, 5] (by decide))⟩
            · (try dsimp only); omega
        · skip
          refine g_cond_f rfl (decide_eq_false hb21) ?_
          refine g_exit ?_
          refine g_then_exit ?_
          refine g_then_exit ?_
          refine g_in_hit ?_
          refine g_then ?_
          refine g_seq ?_
          refine g_region ?_
          refine l_of (s_call (wt0 rfl) (x_call' rfl rfl cl10) (awake_p _) ?_)
          rintro _ wq93 ⟨rfl, H94⟩
          replace H94 : S wq93 [Ob gr (.cells #[.slice q1 rr.ms.length d1, .slice q2 rr.ms.length d2, .int .i64 (rr.bytes), .bool rr.greet, .bool rr.hello.e, .bool rr.hello.f, .bool rr.hello.n, .string (rr.hello.name), .string (rr.hello.peer), .bool rr.told, .string (rr.left), .int .i64 (rr.done), .int .i64 (rr.wrong)] 108 (0, 0)), Rw 33 8 q1 rr.ms.length d1 (msgsV rr.ms), Rw 3 1 q2 rr.ms.length d2 (zsV rr.zs), Ob gw (.cells #[.bool g, .string fed, .int .i64 ((t : Int))] 113 (0, 0)), Old w no] := H20.absorb (new := []) (S.of_below H94)
          refine b_ret rfl rfl ?_
          refine l_of (s_val (v := .bool true) (wt0 rfl) rfl rfl (x_assign rfl rfl) ?_)
          refine g_nil ?_
          refine g_then ?_
          refine g_ret ?_
          refine fin_ret [.tmp 4] [.bool true] rfl ⟨rfl, trivial⟩ ?_
          exact ⟨rfl, (H94.mask [false, false, false, false, true]).below (new := [])⟩
end Go.Proofs.Ytcjmdkklbbollaa
