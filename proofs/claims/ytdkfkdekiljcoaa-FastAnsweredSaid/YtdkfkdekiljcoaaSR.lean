import Derived.Test.YtdkfkdekiljcoaaSQ
set_option linter.unusedSimpArgs false
set_option linter.unusedVariables false
namespace Go.Proofs.Ytdkfkdekiljcoaa
open Go.RowKit

theorem cl31 : callable Try.prog 31 = true := by kernel_rfl
theorem cl51 : callable Try.prog 51 = true := by kernel_rfl
theorem cl53 : callable Try.prog 53 = true := by kernel_rfl
theorem cl55 : callable Try.prog 55 = true := by kernel_rfl
theorem sz75 : szO Try.prog 75 = some 11 := by kernel_rfl
theorem need_bt {b : Bool} (hb : b = true) (n : Int) (w : World) : Calls Try.prog 31 #[.bool b, .int .i64 n] w fun e w' => e = .returned (.tuple #[]) ∧ S w' [Old w no] := by
  subst hb; exact need_t n w
theorem need_bf {b : Bool} (hb : b = false) (n : Int) (w : World) : Calls Try.prog 31 #[.bool b, .int .i64 n] w fun e w' => e = .panicked [{ v := .iface 72 (.int .i64 n), recovered := false }] ∧ S w' [Old w no] := by
  subst hb; exact need_f n w
set_option maxRecDepth 20000 in
set_option maxHeartbeats 4000000 in
theorem reject_o (sg : Nat) (c : Co) (o : Bool) (A B : Ad) (a b : Wy) (m : M) (hok : chOk (blk m)) (hwl : a.wa.length ≤ 1099511627776) (hal : a.al.length ≤ 1099511627776) (hq : chB a.wa (blk m) = true) (w : World) (HS : S w [sgI sg c o A B a b, alI A a, waI A a, goI A a, alI B b, waI B b, goI B b]) : Calls Try.prog 56 #[.agg #[.pointer (some ⟨sg, 0, none⟩), .int .i64 (m.kind), .int .i64 (m.i1), .int .i64 (m.i2), .int .i64 (m.i3), .int .i64 (m.i4), .int .i64 (m.i5), .string (m.root), .string (m.data), .pointer (some ⟨sg, offO o, none⟩), .pointer (some ⟨sg, offP o, none⟩)]] w fun e w' => e = .returned (.tuple #[]) ∧ S w' ([sgI sg c o A B (a.drop (blk m)) b, alI A (a.drop (blk m)), waI A (a.drop (blk m)), goI A (a.drop (blk m)), alI B b, waI B b, goI B b] ++ [olS w sg c o A B a b]) := by
 have H0 := HS.beginI
 refine enter 17 Try.func56 rfl rfl rfl ?_
 refine g_weak [(0, .agg #[.pointer (some ⟨sg, 0, none⟩), .int .i64 (m.kind), .int .i64 (m.i1), .int .i64 (m.i2), .int .i64 (m.i3), .int .i64 (m.i4), .int .i64 (m.i5), .string (m.root), .string (m.data), .pointer (some ⟨sg, offO o, none⟩), .pointer (some ⟨sg, offP o, none⟩)])] ⟨rfl, trivial⟩ ?_
 refine w_s ?_
 refine l_of (s_box H0 (wt0 rfl) rfl rfl rfl rfl ?_)
 intro g1 wq2 H3
 refine w_e ?_
 refine w_s ?_
 refine w_v (v := .agg #[.pointer (some ⟨sg, 0, none⟩), .int .i64 (m.kind), .int .i64 (m.i1), .int .i64 (m.i2), .int .i64 (m.i3), .int .i64 (m.i4), .int .i64 (m.i5), .string (m.root), .string (m.data), .pointer (some ⟨sg, offO o, none⟩), .pointer (some ⟨sg, offP o, none⟩)]) (x_loadA H3 0 rfl rfl Try.underlying75 rfl sz75 rfl rfl rfl) ?_
 refine l_of (s_call0 H3 (wt0 rfl) (x_call' rfl rfl cl51) (block_o sg o m _) rfl rfl ?_)
 intro wq4 H5
 refine l_of (s_alloc H5 (wt0 rfl) rfl rfl rfl ze49 ?_)
 intro g6 wq7 H8
 refine l_of (w_st #[.int .i64 ((blk m).p), .int .i64 ((blk m).b), .int .i64 ((blk m).n)] H8 0 ?_)
 intro wq9 H10
 refine w_e ?_
 refine g_seq ?_
 refine g_any [(0, .agg #[.pointer (some ⟨sg, 0, none⟩), .int .i64 (m.kind), .int .i64 (m.i1), .int .i64 (m.i2), .int .i64 (m.i3), .int .i64 (m.i4), .int .i64 (m.i5), .string (m.root), .string (m.data), .pointer (some ⟨sg, offO o, none⟩), .pointer (some ⟨sg, offP o, none⟩)]), (1, .pointer (some ⟨g1, 0, none⟩)), (2, .pointer (some ⟨g6, 0, none⟩)), (3, .agg #[.pointer (some ⟨sg, 0, none⟩), .int .i64 (m.kind), .int .i64 (m.i1), .int .i64 (m.i2), .int .i64 (m.i3), .int .i64 (m.i4), .int .i64 (m.i5), .string (m.root), .string (m.data), .pointer (some ⟨sg, offO o, none⟩), .pointer (some ⟨sg, offP o, none⟩)]), (4, .agg #[.int .i64 ((blk m).p), .int .i64 ((blk m).b), .int .i64 ((blk m).n)])] (fun wx => S wx [Ob g6 (.cells #[.int .i64 ((blk m).p), .int .i64 ((blk m).b), .int .i64 ((blk m).n)] 49 (0, 0)), ddI g1 sg o m, sgI sg c o A B a b]) [] (by kernel_rfl) H10 (fun wq11 H12 => ?_)
 have cm1 := H12.mask [true, true, true, false, false, false, false, false, false, false]
 refine w_t 0 rfl cm1 (fun _ _ => xf 9) ?_
 refine w_t 1 rfl cm1 (fun _ H => xl H 1) ?_
 refine w_t 2 rfl cm1 (fun _ _ => xn) ?_
 refine w_t 3 rfl cm1 (fun _ _ => xf (offO o + 5)) ?_
 refine w_t 4 rfl cm1 (fun _ H => x_load1 H 2 rfl rfl Try.underlying37 rfl rfl (sgC_o rfl rfl rfl)) ?_
 refine w_t (v := .agg #[.int .i64 ((blk m).p), .int .i64 ((blk m).b), .int .i64 ((blk m).n)]) 5 rfl cm1 (fun _ H => x_loadA H 0 rfl rfl Try.underlying49 rfl sz49 rfl rfl rfl) ?_
 refine a_one (i := 6) (by kernel_rfl) rfl ?_
 refine s_call0 H12 (wt0 rfl) (x_call' rfl rfl cl53) (contains_c a.wa A.pw A.cw (blk m) (by omega) _ (H12.rwReads (k := 4) rfl)) rfl rfl ?_
 intro wq13 H14
 have cm2 := H14.mask [true, true, true, false, false, false, false, false, false, false]
 refine a_k cm2 ?_
 refine a_one (i := 7) (by kernel_rfl) rfl ?_
 have hnd15 := need_bt hq 8 wq13
 refine s_call0 H14 (wt0 rfl) (x_call' rfl rfl cl31) (hnd15) rfl rfl ?_
 intro wq16 H17
 refine a_k (H17.mask [true, true, true, false, false, false, false, false, false, false]) ?_
 refine a_done (by kernel_rfl) ?_
 refine g_then ?_
 refine g_region ?_
 refine w_f 9 ?_
 refine w_1 H17 1 ?_
 refine w_v (v := .agg #[.int .i64 ((blk m).p), .int .i64 ((blk m).b), .int .i64 ((blk m).n)]) (x_loadA H17 0 rfl rfl Try.underlying49 rfl sz49 rfl rfl rfl) ?_
 refine l_of (s_call (wt0 rfl) (x_call' rfl rfl cl55) (drop_o sg c o A B a b (blk m) hok (by omega) _ (H17.takes [2, 3, 4, 5, 6, 7, 8] (by decide))) ?_)
 rintro _ wq18 ⟨rfl, H19⟩
 replace H19 : S wq18 [sgI sg c o A B (a.drop (blk m)) b, alI A (a.drop (blk m)), waI A (a.drop (blk m)), goI A (a.drop (blk m)), alI B b, waI B b, goI B b, Ob g6 (.cells #[.int .i64 ((blk m).p), .int .i64 ((blk m).b), .int .i64 ((blk m).n)] 49 (0, 0)), ddI g1 sg o m, olS w sg c o A B a b] := by have h := H17.absorbI [2, 3, 4, 5, 6, 7, 8] H19; exact h
 refine b_ret rfl rfl ?_
 refine g_nil ?_
 refine fin_end [] [] rfl trivial ?_
 exact ⟨rfl, H19.takes [0, 1, 2, 3, 4, 5, 6, 9] (by decide)⟩
set_option maxRecDepth 20000 in
set_option maxHeartbeats 4000000 in
theorem rejectN_o (sg : Nat) (c : Co) (o : Bool) (A B : Ad) (a b : Wy) (m : M) (hok : chOk (blk m)) (hwl : a.wa.length ≤ 1099511627776) (hal : a.al.length ≤ 1099511627776) (hq : chB a.wa (blk m) = false) (w : World) (HS : S w [sgI sg c o A B a b, alI A a, waI A a, goI A a, alI B b, waI B b, goI B b]) : Calls Try.prog 56 #[.agg #[.pointer (some ⟨sg, 0, none⟩), .int .i64 (m.kind), .int .i64 (m.i1), .int .i64 (m.i2), .int .i64 (m.i3), .int .i64 (m.i4), .int .i64 (m.i5), .string (m.root), .string (m.data), .pointer (some ⟨sg, offO o, none⟩), .pointer (some ⟨sg, offP o, none⟩)]] w fun e w' => e = .panicked [{ v := .iface 72 (.int .i64 8), recovered := false }] ∧ S w' ([sgI sg c o A B a b, alI A a, waI A a, goI A a, alI B b, waI B b, goI B b] ++ [olS w sg c o A B a b]) := by
 have H0 := HS.beginI
 refine enter 17 Try.func56 rfl rfl rfl ?_
 refine g_weak [(0, .agg #[.pointer (some ⟨sg, 0, none⟩), .int .i64 (m.kind), .int .i64 (m.i1), .int .i64 (m.i2), .int .i64 (m.i3), .int .i64 (m.i4), .int .i64 (m.i5), .string (m.root), .string (m.data), .pointer (some ⟨sg, offO o, none⟩), .pointer (some ⟨sg, offP o, none⟩)])] ⟨rfl, trivial⟩ ?_
 refine w_s ?_
 refine l_of (s_box H0 (wt0 rfl) rfl rfl rfl rfl ?_)
 intro g1 wq2 H3
 refine w_e ?_
 refine w_s ?_
 refine w_v (v := .agg #[.pointer (some ⟨sg, 0, none⟩), .int .i64 (m.kind), .int .i64 (m.i1), .int .i64 (m.i2), .int .i64 (m.i3), .int .i64 (m.i4), .int .i64 (m.i5), .string (m.root), .string (m.data), .pointer (some ⟨sg, offO o, none⟩), .pointer (some ⟨sg, offP o, none⟩)]) (x_loadA H3 0 rfl rfl Try.underlying75 rfl sz75 rfl rfl rfl) ?_
 refine l_of (s_call0 H3 (wt0 rfl) (x_call' rfl rfl cl51) (block_o sg o m _) rfl rfl ?_)
 intro wq4 H5
 refine l_of (s_alloc H5 (wt0 rfl) rfl rfl rfl ze49 ?_)
 intro g6 wq7 H8
 refine l_of (w_st #[.int .i64 ((blk m).p), .int .i64 ((blk m).b), .int .i64 ((blk m).n)] H8 0 ?_)
 intro wq9 H10
 refine w_e ?_
 refine g_seq ?_
 refine g_any [(0, .agg #[.pointer (some ⟨sg, 0, none⟩), .int .i64 (m.kind), .int .i64 (m.i1), .int .i64 (m.i2), .int .i64 (m.i3), .int .i64 (m.i4), .int .i64 (m.i5), .string (m.root), .string (m.data), .pointer (some ⟨sg, offO o, none⟩), .pointer (some ⟨sg, offP o, none⟩)]), (1, .pointer (some ⟨g1, 0, none⟩)), (2, .pointer (some ⟨g6, 0, none⟩)), (3, .agg #[.pointer (some ⟨sg, 0, none⟩), .int .i64 (m.kind), .int .i64 (m.i1), .int .i64 (m.i2), .int .i64 (m.i3), .int .i64 (m.i4), .int .i64 (m.i5), .string (m.root), .string (m.data), .pointer (some ⟨sg, offO o, none⟩), .pointer (some ⟨sg, offP o, none⟩)]), (4, .agg #[.int .i64 ((blk m).p), .int .i64 ((blk m).b), .int .i64 ((blk m).n)])] (fun wx => S wx [Ob g6 (.cells #[.int .i64 ((blk m).p), .int .i64 ((blk m).b), .int .i64 ((blk m).n)] 49 (0, 0)), ddI g1 sg o m, sgI sg c o A B a b]) [] (by kernel_rfl) H10 (fun wq11 H12 => ?_)
 have cm3 := H12.mask [true, true, true, false, false, false, false, false, false, false]
 refine w_t 0 rfl cm3 (fun _ _ => xf 9) ?_
 refine w_t 1 rfl cm3 (fun _ H => xl H 1) ?_
 refine w_t 2 rfl cm3 (fun _ _ => xn) ?_
 refine w_t 3 rfl cm3 (fun _ _ => xf (offO o + 5)) ?_
 refine w_t 4 rfl cm3 (fun _ H => x_load1 H 2 rfl rfl Try.underlying37 rfl rfl (sgC_o rfl rfl rfl)) ?_
 refine w_t (v := .agg #[.int .i64 ((blk m).p), .int .i64 ((blk m).b), .int .i64 ((blk m).n)]) 5 rfl cm3 (fun _ H => x_loadA H 0 rfl rfl Try.underlying49 rfl sz49 rfl rfl rfl) ?_
 refine a_one (i := 6) (by kernel_rfl) rfl ?_
 refine s_call0 H12 (wt0 rfl) (x_call' rfl rfl cl53) (contains_c a.wa A.pw A.cw (blk m) (by omega) _ (H12.rwReads (k := 4) rfl)) rfl rfl ?_
 intro wq13 H14
 have cm4 := H14.mask [true, true, true, false, false, false, false, false, false, false]
 refine a_k cm4 ?_
 refine a_one (i := 7) (by kernel_rfl) rfl ?_
 have hnd15 := need_bf hq 8 wq13
 refine s_call (wt0 rfl) (x_call' rfl rfl cl31) (hnd15) ?_
 rintro _ wq16 ⟨rfl, H17⟩
 replace H17 : S wq16 [Ob g6 (.cells #[.int .i64 ((blk m).p), .int .i64 ((blk m).b), .int .i64 ((blk m).n)] 49 (0, 0)), ddI g1 sg o m, sgI sg c o A B a b, alI A a, waI A a, goI A a, alI B b, waI B b, goI B b, olS w sg c o A B a b] := H14.absorb (new := []) H17
 refine b_panic ?_
 refine pan_in ⟨rfl, rfl, rfl, rfl, rfl, trivial⟩ ?_
 refine g_then_panic ?_
 refine fin_panic ?_
 exact ⟨rfl, H17.takes [2, 3, 4, 5, 6, 7, 8, 9] (by decide)⟩
end Go.Proofs.Ytdkfkdekiljcoaa
