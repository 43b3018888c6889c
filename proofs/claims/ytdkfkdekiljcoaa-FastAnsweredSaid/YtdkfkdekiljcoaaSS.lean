import Derived.Test.YtdkfkdekiljcoaaSR
set_option linter.unusedSimpArgs false
set_option linter.unusedVariables false
namespace Go.Proofs.Ytdkfkdekiljcoaa
open Go.RowKit

theorem cl24 : callable Try.prog 24 = true := by kernel_rfl
set_option maxRecDepth 20000 in
set_option maxHeartbeats 4000000 in
theorem piece_o (sg : Nat) (c : Co) (o : Bool) (A B : Ad) (a b : Wy) (m : M) (hok : chOk (blk m)) (hwl : a.wa.length ≤ 1099511627776) (hal : a.al.length ≤ 1099511627776) (ho : openB a (blk m).p = true) (hq : chB a.wa (blk m) = true) (w : World) (HS : S w [sgI sg c o A B a b, alI A a, waI A a, goI A a, alI B b, waI B b, goI B b]) : Calls Try.prog 54 #[.agg #[.pointer (some ⟨sg, 0, none⟩), .int .i64 (m.kind), .int .i64 (m.i1), .int .i64 (m.i2), .int .i64 (m.i3), .int .i64 (m.i4), .int .i64 (m.i5), .string (m.root), .string (m.data), .pointer (some ⟨sg, offO o, none⟩), .pointer (some ⟨sg, offP o, none⟩)]] w fun e w' => e = .returned (.tuple #[]) ∧ S w' ([sgI sg c o A B (a.drop (blk m)) b, alI A (a.drop (blk m)), waI A (a.drop (blk m)), goI A (a.drop (blk m)), alI B b, waI B b, goI B b] ++ [olS w sg c o A B a b]) := by
 have H0 := HS.beginI
 refine enter 23 Try.func54 rfl rfl rfl ?_
 refine g_weak [(0, .agg #[.pointer (some ⟨sg, 0, none⟩), .int .i64 (m.kind), .int .i64 (m.i1), .int .i64 (m.i2), .int .i64 (m.i3), .int .i64 (m.i4), .int .i64 (m.i5), .string (m.root), .string (m.data), .pointer (some ⟨sg, offO o, none⟩), .pointer (some ⟨sg, offP o, none⟩)])] ⟨rfl, trivial⟩ ?_
 refine w_s ?_
 refine l_of (s_box H0 (wt0 rfl) rfl rfl rfl rfl ?_)
 intro g1 wq2 H3
 refine w_e ?_
 refine w_s ?_
 refine w_v (v := .agg #[.pointer (some ⟨sg, 0, none⟩), .int .i64 (m.kind), .int .i64 (m.i1), .int .i64 (m.i2), .int .i64 (m.i3), .int .i64 (m.i4), .int .i64 (m.i5), .string (m.root), .string (m.data), .pointer (some ⟨sg, offO o, none⟩), .pointer (some ⟨sg, offP o, none⟩)]) (x_loadA H3 0 rfl rfl Try.underlying75 rfl sz75 rfl rfl rfl) ?_
 refine l_of (s_call0 H3 (wt0 rfl) (x_call' rfl rfl cl51) (block_o sg o m _) rfl rfl ?_)
 intro wq4 H5
 refine l_of (s_alloc H5 (wt0 rfl) rfl rfl rfl ze49 ?_)
 intro g6 wq7 H8
 refine l_of (w_st #[.int .i64 ((blk m).p), .int .i64 ((blk m).b), .int .i64 ((blk m).n)] H8 0 ?_)
 intro wq9 H10
 refine w_e ?_
 refine w_s ?_
 refine w_f 9 ?_
 refine w_1 H10 1 ?_
 refine w_f 0 ?_
 refine w_1 H10 0 ?_
 refine l_of (s_call (wt0 rfl) (x_call' rfl rfl cl24) (open_o sg c o A B a b (blk m).p (by omega) _ (H10.takes [2, 3, 4, 5, 6, 7, 8] (by decide))) ?_)
 rintro _ wq11 ⟨rfl, H12⟩
 replace H12 : S wq11 [sgI sg c o A B a b, alI A a, waI A a, goI A a, alI B b, waI B b, goI B b, Ob g6 (.cells #[.int .i64 ((blk m).p), .int .i64 ((blk m).b), .int .i64 ((blk m).n)] 49 (0, 0)), ddI g1 sg o m, olS w sg c o A B a b] := by have h := H10.absorbI [2, 3, 4, 5, 6, 7, 8] H12; exact h
 refine b_ret rfl rfl ?_
 have hnd13 := need_bt ho 9 wq11
 refine l_of (s_call0 H12 (wt0 rfl) (x_call' rfl rfl cl31) (hnd13) rfl rfl ?_)
 intro wq14 H15
 refine w_e ?_
 refine g_seq ?_
 refine g_any [(0, .agg #[.pointer (some ⟨sg, 0, none⟩), .int .i64 (m.kind), .int .i64 (m.i1), .int .i64 (m.i2), .int .i64 (m.i3), .int .i64 (m.i4), .int .i64 (m.i5), .string (m.root), .string (m.data), .pointer (some ⟨sg, offO o, none⟩), .pointer (some ⟨sg, offP o, none⟩)]), (1, .pointer (some ⟨g1, 0, none⟩)), (2, .pointer (some ⟨g6, 0, none⟩)), (3, .agg #[.pointer (some ⟨sg, 0, none⟩), .int .i64 (m.kind), .int .i64 (m.i1), .int .i64 (m.i2), .int .i64 (m.i3), .int .i64 (m.i4), .int .i64 (m.i5), .string (m.root), .string (m.data), .pointer (some ⟨sg, offO o, none⟩), .pointer (some ⟨sg, offP o, none⟩)]), (4, .agg #[.int .i64 ((blk m).p), .int .i64 ((blk m).b), .int .i64 ((blk m).n)]), (5, .pointer (some ⟨g1, 9, none⟩)), (6, .pointer (some ⟨sg, offO o, none⟩)), (7, .pointer (some ⟨g6, 0, none⟩)), (8, .int .i64 ((blk m).p)), (9, .bool ((openB a (blk m).p))), (10, .tuple #[])] (fun wx => S wx [sgI sg c o A B a b, Ob g6 (.cells #[.int .i64 ((blk m).p), .int .i64 ((blk m).b), .int .i64 ((blk m).n)] 49 (0, 0)), ddI g1 sg o m]) [] (by kernel_rfl) H15 (fun wq16 H17 => ?_)
 have cm1 := H17.mask [true, false, false, false, false, false, false, true, true, false]
 refine w_t 0 rfl cm1 (fun _ _ => xf 9) ?_
 refine w_t 1 rfl cm1 (fun _ H => xl H 2) ?_
 refine w_t 2 rfl cm1 (fun _ _ => xn) ?_
 refine w_t 3 rfl cm1 (fun _ _ => xf (offO o + 5)) ?_
 refine w_t 4 rfl cm1 (fun _ H => x_load1 H 0 rfl rfl Try.underlying37 rfl rfl (sgC_o rfl rfl rfl)) ?_
 refine w_t (v := .agg #[.int .i64 ((blk m).p), .int .i64 ((blk m).b), .int .i64 ((blk m).n)]) 5 rfl cm1 (fun _ H => x_loadA H 1 rfl rfl Try.underlying49 rfl sz49 rfl rfl rfl) ?_
 refine a_one (i := 6) (by kernel_rfl) rfl ?_
 refine s_call0 H17 (wt0 rfl) (x_call' rfl rfl cl53) (contains_c a.wa A.pw A.cw (blk m) (by omega) _ (H17.rwReads (k := 2) rfl)) rfl rfl ?_
 intro wq18 H19
 have cm2 := H19.mask [true, false, false, false, false, false, false, true, true, false]
 refine a_k cm2 ?_
 refine a_one (i := 7) (by kernel_rfl) rfl ?_
 have hnd20 := need_bt hq 8 wq18
 refine s_call0 H19 (wt0 rfl) (x_call' rfl rfl cl31) (hnd20) rfl rfl ?_
 intro wq21 H22
 refine a_k (H22.mask [true, false, false, false, false, false, false, true, true, false]) ?_
 refine a_done (by kernel_rfl) ?_
 refine g_then ?_
 refine g_weak [(1, .pointer (some ⟨g1, 0, none⟩)), (2, .pointer (some ⟨g6, 0, none⟩))] ⟨rfl, rfl, trivial⟩ ?_
 refine g_region ?_
 refine w_f 9 ?_
 refine w_1 H22 8 ?_
 refine w_v (v := .agg #[.int .i64 ((blk m).p), .int .i64 ((blk m).b), .int .i64 ((blk m).n)]) (x_loadA H22 7 rfl rfl Try.underlying49 rfl sz49 rfl rfl rfl) ?_
 refine l_of (s_call (wt0 rfl) (x_call' rfl rfl cl55) (drop_o sg c o A B a b (blk m) hok (by omega) _ (H22.takes [0, 1, 2, 3, 4, 5, 6] (by decide))) ?_)
 rintro _ wq23 ⟨rfl, H24⟩
 replace H24 : S wq23 [sgI sg c o A B (a.drop (blk m)) b, alI A (a.drop (blk m)), waI A (a.drop (blk m)), goI A (a.drop (blk m)), alI B b, waI B b, goI B b, Ob g6 (.cells #[.int .i64 ((blk m).p), .int .i64 ((blk m).b), .int .i64 ((blk m).n)] 49 (0, 0)), ddI g1 sg o m, olS w sg c o A B a b] := by have h := H22.absorbI [0, 1, 2, 3, 4, 5, 6] H24; exact h
 refine b_ret rfl rfl ?_
 refine g_nil ?_
 refine fin_end [] [] rfl trivial ?_
 exact ⟨rfl, H24.takes [0, 1, 2, 3, 4, 5, 6, 9] (by decide)⟩
set_option maxRecDepth 20000 in
set_option maxHeartbeats 4000000 in
theorem pieceN_o (sg : Nat) (c : Co) (o : Bool) (A B : Ad) (a b : Wy) (m : M) (hok : chOk (blk m)) (hwl : a.wa.length ≤ 1099511627776) (hal : a.al.length ≤ 1099511627776) (ho : openB a (blk m).p = true) (hq : chB a.wa (blk m) = false) (w : World) (HS : S w [sgI sg c o A B a b, alI A a, waI A a, goI A a, alI B b, waI B b, goI B b]) : Calls Try.prog 54 #[.agg #[.pointer (some ⟨sg, 0, none⟩), .int .i64 (m.kind), .int .i64 (m.i1), .int .i64 (m.i2), .int .i64 (m.i3), .int .i64 (m.i4), .int .i64 (m.i5), .string (m.root), .string (m.data), .pointer (some ⟨sg, offO o, none⟩), .pointer (some ⟨sg, offP o, none⟩)]] w fun e w' => e = .panicked [{ v := .iface 72 (.int .i64 8), recovered := false }] ∧ S w' ([sgI sg c o A B a b, alI A a, waI A a, goI A a, alI B b, waI B b, goI B b] ++ [olS w sg c o A B a b]) := by
 have H0 := HS.beginI
 refine enter 23 Try.func54 rfl rfl rfl ?_
 refine g_weak [(0, .agg #[.pointer (some ⟨sg, 0, none⟩), .int .i64 (m.kind), .int .i64 (m.i1), .int .i64 (m.i2), .int .i64 (m.i3), .int .i64 (m.i4), .int .i64 (m.i5), .string (m.root), .string (m.data), .pointer (some ⟨sg, offO o, none⟩), .pointer (some ⟨sg, offP o, none⟩)])] ⟨rfl, trivial⟩ ?_
 refine w_s ?_
 refine l_of (s_box H0 (wt0 rfl) rfl rfl rfl rfl ?_)
 intro g1 wq2 H3
 refine w_e ?_
 refine w_s ?_
 refine w_v (v := .agg #[.pointer (some ⟨sg, 0, none⟩), .int .i64 (m.kind), .int .i64 (m.i1), .int .i64 (m.i2), .int .i64 (m.i3), .int .i64 (m.i4), .int .i64 (m.i5), .string (m.root), .string (m.data), .pointer (some ⟨sg, offO o, none⟩), .pointer (some ⟨sg, offP o, none⟩)]) (x_loadA H3 0 rfl rfl Try.underlying75 rfl sz75 rfl rfl rfl) ?_
 refine l_of (s_call0 H3 (wt0 rfl) (x_call' rfl rfl cl51) (block_o sg o m _) rfl rfl ?_)
 intro wq4 H5
 refine l_of (s_alloc H5 (wt0 rfl) rfl rfl rfl ze49 ?_)
 intro g6 wq7 H8
 refine l_of (w_st #[.int .i64 ((blk m).p), .int .i64 ((blk m).b), .int .i64 ((blk m).n)] H8 0 ?_)
 intro wq9 H10
 refine w_e ?_
 refine w_s ?_
 refine w_f 9 ?_
 refine w_1 H10 1 ?_
 refine w_f 0 ?_
 refine w_1 H10 0 ?_
 refine l_of (s_call (wt0 rfl) (x_call' rfl rfl cl24) (open_o sg c o A B a b (blk m).p (by omega) _ (H10.takes [2, 3, 4, 5, 6, 7, 8] (by decide))) ?_)
 rintro _ wq11 ⟨rfl, H12⟩
 replace H12 : S wq11 [sgI sg c o A B a b, alI A a, waI A a, goI A a, alI B b, waI B b, goI B b, Ob g6 (.cells #[.int .i64 ((blk m).p), .int .i64 ((blk m).b), .int .i64 ((blk m).n)] 49 (0, 0)), ddI g1 sg o m, olS w sg c o A B a b] := by have h := H10.absorbI [2, 3, 4, 5, 6, 7, 8] H12; exact h
 refine b_ret rfl rfl ?_
 have hnd13 := need_bt ho 9 wq11
 refine l_of (s_call0 H12 (wt0 rfl) (x_call' rfl rfl cl31) (hnd13) rfl rfl ?_)
 intro wq14 H15
 refine w_e ?_
 refine g_seq ?_
 refine g_any [(0, .agg #[.pointer (some ⟨sg, 0, none⟩), .int .i64 (m.kind), .int .i64 (m.i1), .int .i64 (m.i2), .int .i64 (m.i3), .int .i64 (m.i4), .int .i64 (m.i5), .string (m.root), .string (m.data), .pointer (some ⟨sg, offO o, none⟩), .pointer (some ⟨sg, offP o, none⟩)]), (1, .pointer (some ⟨g1, 0, none⟩)), (2, .pointer (some ⟨g6, 0, none⟩)), (3, .agg #[.pointer (some ⟨sg, 0, none⟩), .int .i64 (m.kind), .int .i64 (m.i1), .int .i64 (m.i2), .int .i64 (m.i3), .int .i64 (m.i4), .int .i64 (m.i5), .string (m.root), .string (m.data), .pointer (some ⟨sg, offO o, none⟩), .pointer (some ⟨sg, offP o, none⟩)]), (4, .agg #[.int .i64 ((blk m).p), .int .i64 ((blk m).b), .int .i64 ((blk m).n)]), (5, .pointer (some ⟨g1, 9, none⟩)), (6, .pointer (some ⟨sg, offO o, none⟩)), (7, .pointer (some ⟨g6, 0, none⟩)), (8, .int .i64 ((blk m).p)), (9, .bool ((openB a (blk m).p))), (10, .tuple #[])] (fun wx => S wx [sgI sg c o A B a b, Ob g6 (.cells #[.int .i64 ((blk m).p), .int .i64 ((blk m).b), .int .i64 ((blk m).n)] 49 (0, 0)), ddI g1 sg o m]) [] (by kernel_rfl) H15 (fun wq16 H17 => ?_)
 have cm3 := H17.mask [true, false, false, false, false, false, false, true, true, false]
 refine w_t 0 rfl cm3 (fun _ _ => xf 9) ?_
 refine w_t 1 rfl cm3 (fun _ H => xl H 2) ?_
 refine w_t 2 rfl cm3 (fun _ _ => xn) ?_
 refine w_t 3 rfl cm3 (fun _ _ => xf (offO o + 5)) ?_
 refine w_t 4 rfl cm3 (fun _ H => x_load1 H 0 rfl rfl Try.underlying37 rfl rfl (sgC_o rfl rfl rfl)) ?_
 refine w_t (v := .agg #[.int .i64 ((blk m).p), .int .i64 ((blk m).b), .int .i64 ((blk m).n)]) 5 rfl cm3 (fun _ H => x_loadA H 1 rfl rfl Try.underlying49 rfl sz49 rfl rfl rfl) ?_
 refine a_one (i := 6) (by kernel_rfl) rfl ?_
 refine s_call0 H17 (wt0 rfl) (x_call' rfl rfl cl53) (contains_c a.wa A.pw A.cw (blk m) (by omega) _ (H17.rwReads (k := 2) rfl)) rfl rfl ?_
 intro wq18 H19
 have cm4 := H19.mask [true, false, false, false, false, false, false, true, true, false]
 refine a_k cm4 ?_
 refine a_one (i := 7) (by kernel_rfl) rfl ?_
 have hnd20 := need_bf hq 8 wq18
 refine s_call (wt0 rfl) (x_call' rfl rfl cl31) (hnd20) ?_
 rintro _ wq21 ⟨rfl, H22⟩
 replace H22 : S wq21 [sgI sg c o A B a b, alI A a, waI A a, goI A a, alI B b, waI B b, goI B b, Ob g6 (.cells #[.int .i64 ((blk m).p), .int .i64 ((blk m).b), .int .i64 ((blk m).n)] 49 (0, 0)), ddI g1 sg o m, olS w sg c o A B a b] := H19.absorb (new := []) H22
 refine b_panic ?_
 refine pan_in ⟨rfl, rfl, rfl, rfl, rfl, rfl, rfl, rfl, rfl, rfl, rfl, trivial⟩ ?_
 refine g_then_panic ?_
 refine fin_panic ?_
 exact ⟨rfl, H22.takes [0, 1, 2, 3, 4, 5, 6, 9] (by decide)⟩
set_option maxRecDepth 20000 in
set_option maxHeartbeats 4000000 in
theorem pieceO_o (sg : Nat) (c : Co) (o : Bool) (A B : Ad) (a b : Wy) (m : M) (hok : chOk (blk m)) (hwl : a.wa.length ≤ 1099511627776) (hal : a.al.length ≤ 1099511627776) (ho : openB a (blk m).p = false) (w : World) (HS : S w [sgI sg c o A B a b, alI A a, waI A a, goI A a, alI B b, waI B b, goI B b]) : Calls Try.prog 54 #[.agg #[.pointer (some ⟨sg, 0, none⟩), .int .i64 (m.kind), .int .i64 (m.i1), .int .i64 (m.i2), .int .i64 (m.i3), .int .i64 (m.i4), .int .i64 (m.i5), .string (m.root), .string (m.data), .pointer (some ⟨sg, offO o, none⟩), .pointer (some ⟨sg, offP o, none⟩)]] w fun e w' => e = .panicked [{ v := .iface 72 (.int .i64 9), recovered := false }] ∧ S w' ([sgI sg c o A B a b, alI A a, waI A a, goI A a, alI B b, waI B b, goI B b] ++ [olS w sg c o A B a b]) := by
 have H0 := HS.beginI
 refine enter 23 Try.func54 rfl rfl rfl ?_
 refine g_weak [(0, .agg #[.pointer (some ⟨sg, 0, none⟩), .int .i64 (m.kind), .int .i64 (m.i1), .int .i64 (m.i2), .int .i64 (m.i3), .int .i64 (m.i4), .int .i64 (m.i5), .string (m.root), .string (m.data), .pointer (some ⟨sg, offO o, none⟩), .pointer (some ⟨sg, offP o, none⟩)])] ⟨rfl, trivial⟩ ?_
 refine w_s ?_
 refine l_of (s_box H0 (wt0 rfl) rfl rfl rfl rfl ?_)
 intro g1 wq2 H3
 refine w_e ?_
 refine w_s ?_
 refine w_v (v := .agg #[.pointer (some ⟨sg, 0, none⟩), .int .i64 (m.kind), .int .i64 (m.i1), .int .i64 (m.i2), .int .i64 (m.i3), .int .i64 (m.i4), .int .i64 (m.i5), .string (m.root), .string (m.data), .pointer (some ⟨sg, offO o, none⟩), .pointer (some ⟨sg, offP o, none⟩)]) (x_loadA H3 0 rfl rfl Try.underlying75 rfl sz75 rfl rfl rfl) ?_
 refine l_of (s_call0 H3 (wt0 rfl) (x_call' rfl rfl cl51) (block_o sg o m _) rfl rfl ?_)
 intro wq4 H5
 refine l_of (s_alloc H5 (wt0 rfl) rfl rfl rfl ze49 ?_)
 intro g6 wq7 H8
 refine l_of (w_st #[.int .i64 ((blk m).p), .int .i64 ((blk m).b), .int .i64 ((blk m).n)] H8 0 ?_)
 intro wq9 H10
 refine w_e ?_
 refine w_s ?_
 refine w_f 9 ?_
 refine w_1 H10 1 ?_
 refine w_f 0 ?_
 refine w_1 H10 0 ?_
 refine l_of (s_call (wt0 rfl) (x_call' rfl rfl cl24) (open_o sg c o A B a b (blk m).p (by omega) _ (H10.takes [2, 3, 4, 5, 6, 7, 8] (by decide))) ?_)
 rintro _ wq11 ⟨rfl, H12⟩
 replace H12 : S wq11 [sgI sg c o A B a b, alI A a, waI A a, goI A a, alI B b, waI B b, goI B b, Ob g6 (.cells #[.int .i64 ((blk m).p), .int .i64 ((blk m).b), .int .i64 ((blk m).n)] 49 (0, 0)), ddI g1 sg o m, olS w sg c o A B a b] := by have h := H10.absorbI [2, 3, 4, 5, 6, 7, 8] H12; exact h
 refine b_ret rfl rfl ?_
 have hnd13 := need_bf ho 9 wq11
 refine l_of (s_call (wt0 rfl) (x_call' rfl rfl cl31) (hnd13) ?_)
 rintro _ wq14 ⟨rfl, H15⟩
 replace H15 : S wq14 [sgI sg c o A B a b, alI A a, waI A a, goI A a, alI B b, waI B b, goI B b, Ob g6 (.cells #[.int .i64 ((blk m).p), .int .i64 ((blk m).b), .int .i64 ((blk m).n)] 49 (0, 0)), ddI g1 sg o m, olS w sg c o A B a b] := H12.absorb (new := []) H15
 refine b_panic ?_
 refine g_then_panic ?_
 refine fin_panic ?_
 exact ⟨rfl, H15.takes [0, 1, 2, 3, 4, 5, 6, 9] (by decide)⟩
end Go.Proofs.Ytdkfkdekiljcoaa
