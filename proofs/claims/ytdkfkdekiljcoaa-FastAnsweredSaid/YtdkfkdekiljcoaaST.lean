import Derived.Test.YtdkfkdekiljcoaaSS
set_option linter.unusedSimpArgs false
set_option linter.unusedVariables false
namespace Go.Proofs.Ytdkfkdekiljcoaa
open Go.RowKit

theorem fo57_0 : foO Try.prog 57 0 = some 0 := by kernel_rfl
theorem fo75_0 : foO Try.prog 75 0 = some 0 := by kernel_rfl
def Wy.cancel (a : Wy) (x : Ch) : Wy := { a with go := upM a.go x true }
set_option maxRecDepth 20000 in
set_option maxHeartbeats 4000000 in
theorem cancelN_o (sg : Nat) (c : Co) (o : Bool) (A B : Ad) (a b : Wy) (m : M) (hok : chOk (blk m)) (hwl : b.wa.length ≤ 1099511627776) (hq : chB b.wa (blk m) = false) (w : World) (HS : S w [sgI sg c o A B a b, alI A a, waI A a, goI A a, alI B b, waI B b, goI B b]) : Calls Try.prog 57 #[.agg #[.pointer (some ⟨sg, 0, none⟩), .int .i64 (m.kind), .int .i64 (m.i1), .int .i64 (m.i2), .int .i64 (m.i3), .int .i64 (m.i4), .int .i64 (m.i5), .string (m.root), .string (m.data), .pointer (some ⟨sg, offO o, none⟩), .pointer (some ⟨sg, offP o, none⟩)]] w fun e w' => e = .returned (.tuple #[]) ∧ S w' ([sgI sg c o A B a b, alI A a, waI A a, goI A a, alI B b, waI B b, goI B b] ++ [olS w sg c o A B a b]) := by
 have H0 := HS.beginI
 refine enter 31 Try.func57 rfl rfl rfl ?_
 refine g_weak [(0, .agg #[.pointer (some ⟨sg, 0, none⟩), .int .i64 (m.kind), .int .i64 (m.i1), .int .i64 (m.i2), .int .i64 (m.i3), .int .i64 (m.i4), .int .i64 (m.i5), .string (m.root), .string (m.data), .pointer (some ⟨sg, offO o, none⟩), .pointer (some ⟨sg, offP o, none⟩)])] ⟨rfl, trivial⟩ ?_
 refine w_s ?_
 refine l_of (s_box H0 (wt0 rfl) rfl rfl rfl rfl ?_)
 intro g1 wq2 H3
 refine w_e ?_
 refine w_s ?_
 refine w_v (v := .agg #[.pointer (some ⟨sg, 0, none⟩), .int .i64 (m.kind), .int .i64 (m.i1), .int .i64 (m.i2), .int .i64 (m.i3), .int .i64 (m.i4), .int .i64 (m.i5), .string (m.root), .string (m.data), .pointer (some ⟨sg, offO o, none⟩), .pointer (some ⟨sg, offP o, none⟩)]) (x_loadA H3 0 rfl rfl Try.underlying75 rfl sz75 rfl rfl rfl) ?_
 refine l_of (s_call0 H3 (wt0 rfl) (x_call' rfl rfl cl51) (block_o sg o m _) rfl rfl ?_)
 intro wq4 H5
 refine l_of (s_alloc H5 (wt0 rfl) rfl rfl rfl ze49 ?_)
 intro g6 wq7 H8
 refine l_of (w_st #[.int .i64 ((blk m).p), .int .i64 ((blk m).b), .int .i64 ((blk m).n)] H8 0 ?_)
 intro wq9 H10
 refine w_e ?_
 refine g_block ?_
 refine g_seq ?_
 refine g_any [(0, .agg #[.pointer (some ⟨sg, 0, none⟩), .int .i64 (m.kind), .int .i64 (m.i1), .int .i64 (m.i2), .int .i64 (m.i3), .int .i64 (m.i4), .int .i64 (m.i5), .string (m.root), .string (m.data), .pointer (some ⟨sg, offO o, none⟩), .pointer (some ⟨sg, offP o, none⟩)]), (1, .pointer (some ⟨g1, 0, none⟩)), (2, .pointer (some ⟨g6, 0, none⟩)), (3, .agg #[.pointer (some ⟨sg, 0, none⟩), .int .i64 (m.kind), .int .i64 (m.i1), .int .i64 (m.i2), .int .i64 (m.i3), .int .i64 (m.i4), .int .i64 (m.i5), .string (m.root), .string (m.data), .pointer (some ⟨sg, offO o, none⟩), .pointer (some ⟨sg, offP o, none⟩)]), (4, .agg #[.int .i64 ((blk m).p), .int .i64 ((blk m).b), .int .i64 ((blk m).n)])] (fun wx => S wx [Ob g6 (.cells #[.int .i64 ((blk m).p), .int .i64 ((blk m).b), .int .i64 ((blk m).n)] 49 (0, 0)), ddI g1 sg o m, sgI sg c o A B a b]) [] (by kernel_rfl) H10 (fun wq11 H12 => ?_)
 have cm1 := H12.mask [true, true, true, false, false, false, false, false, false, false]
 refine w_t 0 rfl cm1 (fun _ _ => xf 10) ?_
 refine w_t 1 rfl cm1 (fun _ H => xl H 1) ?_
 refine w_t 2 rfl cm1 (fun _ _ => xn) ?_
 refine w_t 3 rfl cm1 (fun _ _ => xf (offP o + 5)) ?_
 refine w_t 4 rfl cm1 (fun _ H => x_load1 H 2 rfl rfl Try.underlying37 rfl rfl (sgC_p rfl rfl rfl)) ?_
 refine w_t (v := .agg #[.int .i64 ((blk m).p), .int .i64 ((blk m).b), .int .i64 ((blk m).n)]) 5 rfl cm1 (fun _ H => x_loadA H 0 rfl rfl Try.underlying49 rfl sz49 rfl rfl rfl) ?_
 refine a_one (i := 6) (by kernel_rfl) rfl ?_
 refine s_call0 H12 (wt0 rfl) (x_call' rfl rfl cl53) (contains_c b.wa B.pw B.cw (blk m) (by omega) _ (H12.rwReads (k := 7) rfl)) rfl rfl ?_
 intro wq13 H14
 have cm2 := H14.mask [true, true, true, false, false, false, false, false, false, false]
 refine a_k cm2 ?_
 refine w_t (v := .bool (!((chB b.wa (blk m))))) 7 rfl cm2 (fun _ _ => x_not (b := (chB b.wa (blk m))) rfl rfl) ?_
 refine w_t 8 rfl cm2 (fun _ _ => xa) ?_
 refine a_done (by kernel_rfl) ?_
 refine g_then ?_
 refine g_cond_t rfl (neg_of hq) ?_
 refine g_skip ?_
 refine g_in ?_
 refine fin_end [] [] rfl trivial ?_
 exact ⟨rfl, H14.takes [2, 3, 4, 5, 6, 7, 8, 9] (by decide)⟩
set_option maxRecDepth 20000 in
set_option maxHeartbeats 4000000 in
theorem cancelF_o (sg : Nat) (c : Co) (o : Bool) (A B : Ad) (a b : Wy) (m : M) (hok : chOk (blk m)) (hwl : b.wa.length ≤ 1099511627776) (hq : chB b.wa (blk m) = true) (hf : c.ft = true) (w : World) (HS : S w [sgI sg c o A B a b, alI A a, waI A a, goI A a, alI B b, waI B b, goI B b]) : Calls Try.prog 57 #[.agg #[.pointer (some ⟨sg, 0, none⟩), .int .i64 (m.kind), .int .i64 (m.i1), .int .i64 (m.i2), .int .i64 (m.i3), .int .i64 (m.i4), .int .i64 (m.i5), .string (m.root), .string (m.data), .pointer (some ⟨sg, offO o, none⟩), .pointer (some ⟨sg, offP o, none⟩)]] w fun e w' => e = .returned (.tuple #[]) ∧ S w' ([sgI sg c o A B a (b.cancel (blk m)), alI A a, waI A a, goI A a, alI B (b.cancel (blk m)), waI B (b.cancel (blk m)), goI B (b.cancel (blk m))] ++ [olS w sg c o A B a b]) := by
 have H0 := HS.beginI
 refine enter 31 Try.func57 rfl rfl rfl ?_
 refine g_weak [(0, .agg #[.pointer (some ⟨sg, 0, none⟩), .int .i64 (m.kind), .int .i64 (m.i1), .int .i64 (m.i2), .int .i64 (m.i3), .int .i64 (m.i4), .int .i64 (m.i5), .string (m.root), .string (m.data), .pointer (some ⟨sg, offO o, none⟩), .pointer (some ⟨sg, offP o, none⟩)])] ⟨rfl, trivial⟩ ?_
 refine w_s ?_
 refine l_of (s_box H0 (wt0 rfl) rfl rfl rfl rfl ?_)
 intro g1 wq2 H3
 refine w_e ?_
 refine w_s ?_
 refine w_v (v := .agg #[.pointer (some ⟨sg, 0, none⟩), .int .i64 (m.kind), .int .i64 (m.i1), .int .i64 (m.i2), .int .i64 (m.i3), .int .i64 (m.i4), .int .i64 (m.i5), .string (m.root), .string (m.data), .pointer (some ⟨sg, offO o, none⟩), .pointer (some ⟨sg, offP o, none⟩)]) (x_loadA H3 0 rfl rfl Try.underlying75 rfl sz75 rfl rfl rfl) ?_
 refine l_of (s_call0 H3 (wt0 rfl) (x_call' rfl rfl cl51) (block_o sg o m _) rfl rfl ?_)
 intro wq4 H5
 refine l_of (s_alloc H5 (wt0 rfl) rfl rfl rfl ze49 ?_)
 intro g6 wq7 H8
 refine l_of (w_st #[.int .i64 ((blk m).p), .int .i64 ((blk m).b), .int .i64 ((blk m).n)] H8 0 ?_)
 intro wq9 H10
 refine w_e ?_
 refine g_block ?_
 refine g_seq ?_
 refine g_any [(0, .agg #[.pointer (some ⟨sg, 0, none⟩), .int .i64 (m.kind), .int .i64 (m.i1), .int .i64 (m.i2), .int .i64 (m.i3), .int .i64 (m.i4), .int .i64 (m.i5), .string (m.root), .string (m.data), .pointer (some ⟨sg, offO o, none⟩), .pointer (some ⟨sg, offP o, none⟩)]), (1, .pointer (some ⟨g1, 0, none⟩)), (2, .pointer (some ⟨g6, 0, none⟩)), (3, .agg #[.pointer (some ⟨sg, 0, none⟩), .int .i64 (m.kind), .int .i64 (m.i1), .int .i64 (m.i2), .int .i64 (m.i3), .int .i64 (m.i4), .int .i64 (m.i5), .string (m.root), .string (m.data), .pointer (some ⟨sg, offO o, none⟩), .pointer (some ⟨sg, offP o, none⟩)]), (4, .agg #[.int .i64 ((blk m).p), .int .i64 ((blk m).b), .int .i64 ((blk m).n)])] (fun wx => S wx [Ob g6 (.cells #[.int .i64 ((blk m).p), .int .i64 ((blk m).b), .int .i64 ((blk m).n)] 49 (0, 0)), ddI g1 sg o m, sgI sg c o A B a b]) [] (by kernel_rfl) H10 (fun wq11 H12 => ?_)
 have cm3 := H12.mask [true, true, true, false, false, false, false, false, false, false]
 refine w_t 0 rfl cm3 (fun _ _ => xf 10) ?_
 refine w_t 1 rfl cm3 (fun _ H => xl H 1) ?_
 refine w_t 2 rfl cm3 (fun _ _ => xn) ?_
 refine w_t 3 rfl cm3 (fun _ _ => xf (offP o + 5)) ?_
 refine w_t 4 rfl cm3 (fun _ H => x_load1 H 2 rfl rfl Try.underlying37 rfl rfl (sgC_p rfl rfl rfl)) ?_
 refine w_t (v := .agg #[.int .i64 ((blk m).p), .int .i64 ((blk m).b), .int .i64 ((blk m).n)]) 5 rfl cm3 (fun _ H => x_loadA H 0 rfl rfl Try.underlying49 rfl sz49 rfl rfl rfl) ?_
 refine a_one (i := 6) (by kernel_rfl) rfl ?_
 refine s_call0 H12 (wt0 rfl) (x_call' rfl rfl cl53) (contains_c b.wa B.pw B.cw (blk m) (by omega) _ (H12.rwReads (k := 7) rfl)) rfl rfl ?_
 intro wq13 H14
 have cm4 := H14.mask [true, true, true, false, false, false, false, false, false, false]
 refine a_k cm4 ?_
 refine w_t (v := .bool (!((chB b.wa (blk m))))) 7 rfl cm4 (fun _ _ => x_not (b := (chB b.wa (blk m))) rfl rfl) ?_
 refine w_t 8 rfl cm4 (fun _ _ => xa) ?_
 refine a_done (by kernel_rfl) ?_
 refine g_then ?_
 refine g_cond_f rfl (neg_of hq) ?_
 refine w_s ?_
 refine w_f 0 ?_
 refine w_1 H14 1 ?_
 refine w_r3 ?_
 refine w_v (x_load1 H14 2 rfl rfl Try.underlying4 rfl rfl (sgC_c rfl)) ?_
 refine w_a ?_
 refine w_e ?_
 refine g_weak [(1, .pointer (some ⟨g1, 0, none⟩)), (2, .pointer (some ⟨g6, 0, none⟩)), (18, .bool c.ft)] ⟨rfl, rfl, rfl, trivial⟩ ?_
 refine g_cond_t rfl hf ?_
 refine g_any [(1, .pointer (some ⟨g1, 0, none⟩)), (2, .pointer (some ⟨g6, 0, none⟩)), (18, .bool c.ft)] (fun wx => S wx [Ob g6 (.cells #[.int .i64 ((blk m).p), .int .i64 ((blk m).b), .int .i64 ((blk m).n)] 49 (0, 0)), ddI g1 sg o m, sgI sg c o A B a b]) [6] (by kernel_rfl) H14 (fun wq15 H16 => ?_)
 have cm5 := H16.mask [true, true, true, false, false, false, false, false, false, false]
 refine w_t 0 rfl cm5 (fun _ _ => xf 10) ?_
 refine w_t 1 rfl cm5 (fun _ H => xl H 1) ?_
 refine w_t 2 rfl cm5 (fun _ _ => xn) ?_
 refine w_t 3 rfl cm5 (fun _ _ => xf (offP o + 6)) ?_
 refine w_t 4 rfl cm5 (fun _ H => x_load1 H 2 rfl rfl Try.underlying52 rfl rfl (sgC_p rfl rfl rfl)) ?_
 refine w_t (v := .agg #[.int .i64 ((blk m).p), .int .i64 ((blk m).b), .int .i64 ((blk m).n)]) 5 rfl cm5 (fun _ H => x_loadA H 0 rfl rfl Try.underlying49 rfl sz49 rfl rfl rfl) ?_
 refine a_one (i := 6) (by kernel_rfl) rfl ?_
 refine s_mapUpdate (x := blk m) (a := true) goneT H16 8 (wt0 rfl) rfl rfl rfl rfl rfl rfl hok ?_
 intro wq17 H18
 refine a_kt rfl ?_
 refine a_done (by kernel_rfl) ?_
 refine g_in ?_
 refine fin_end [] [] rfl trivial ?_
 exact ⟨rfl, H18.takes [2, 3, 4, 5, 6, 7, 8, 9] (by decide)⟩
set_option maxRecDepth 20000 in
set_option maxHeartbeats 4000000 in
theorem cancelD_o (sg : Nat) (c : Co) (o : Bool) (A B : Ad) (a b : Wy) (m : M) (hok : chOk (blk m)) (hwl : b.wa.length ≤ 1099511627776) (hq : chB b.wa (blk m) = true) (hf : c.ft = false) (w : World) (HS : S w [sgI sg c o A B a b, alI A a, waI A a, goI A a, alI B b, waI B b, goI B b]) : Calls Try.prog 57 #[.agg #[.pointer (some ⟨sg, 0, none⟩), .int .i64 (m.kind), .int .i64 (m.i1), .int .i64 (m.i2), .int .i64 (m.i3), .int .i64 (m.i4), .int .i64 (m.i5), .string (m.root), .string (m.data), .pointer (some ⟨sg, offO o, none⟩), .pointer (some ⟨sg, offP o, none⟩)]] w fun e w' => e = .returned (.tuple #[]) ∧ S w' ([sgI sg c o A B a (b.drop (blk m)), alI A a, waI A a, goI A a, alI B (b.drop (blk m)), waI B (b.drop (blk m)), goI B (b.drop (blk m))] ++ [olS w sg c o A B a b]) := by
 have H0 := HS.beginI
 refine enter 31 Try.func57 rfl rfl rfl ?_
 refine g_weak [(0, .agg #[.pointer (some ⟨sg, 0, none⟩), .int .i64 (m.kind), .int .i64 (m.i1), .int .i64 (m.i2), .int .i64 (m.i3), .int .i64 (m.i4), .int .i64 (m.i5), .string (m.root), .string (m.data), .pointer (some ⟨sg, offO o, none⟩), .pointer (some ⟨sg, offP o, none⟩)])] ⟨rfl, trivial⟩ ?_
 refine w_s ?_
 refine l_of (s_box H0 (wt0 rfl) rfl rfl rfl rfl ?_)
 intro g1 wq2 H3
 refine w_e ?_
 refine w_s ?_
 refine w_v (v := .agg #[.pointer (some ⟨sg, 0, none⟩), .int .i64 (m.kind), .int .i64 (m.i1), .int .i64 (m.i2), .int .i64 (m.i3), .int .i64 (m.i4), .int .i64 (m.i5), .string (m.root), .string (m.data), .pointer (some ⟨sg, offO o, none⟩), .pointer (some ⟨sg, offP o, none⟩)]) (x_loadA H3 0 rfl rfl Try.underlying75 rfl sz75 rfl rfl rfl) ?_
 refine l_of (s_call0 H3 (wt0 rfl) (x_call' rfl rfl cl51) (block_o sg o m _) rfl rfl ?_)
 intro wq4 H5
 refine l_of (s_alloc H5 (wt0 rfl) rfl rfl rfl ze49 ?_)
 intro g6 wq7 H8
 refine l_of (w_st #[.int .i64 ((blk m).p), .int .i64 ((blk m).b), .int .i64 ((blk m).n)] H8 0 ?_)
 intro wq9 H10
 refine w_e ?_
 refine g_block ?_
 refine g_seq ?_
 refine g_any [(0, .agg #[.pointer (some ⟨sg, 0, none⟩), .int .i64 (m.kind), .int .i64 (m.i1), .int .i64 (m.i2), .int .i64 (m.i3), .int .i64 (m.i4), .int .i64 (m.i5), .string (m.root), .string (m.data), .pointer (some ⟨sg, offO o, none⟩), .pointer (some ⟨sg, offP o, none⟩)]), (1, .pointer (some ⟨g1, 0, none⟩)), (2, .pointer (some ⟨g6, 0, none⟩)), (3, .agg #[.pointer (some ⟨sg, 0, none⟩), .int .i64 (m.kind), .int .i64 (m.i1), .int .i64 (m.i2), .int .i64 (m.i3), .int .i64 (m.i4), .int .i64 (m.i5), .string (m.root), .string (m.data), .pointer (some ⟨sg, offO o, none⟩), .pointer (some ⟨sg, offP o, none⟩)]), (4, .agg #[.int .i64 ((blk m).p), .int .i64 ((blk m).b), .int .i64 ((blk m).n)])] (fun wx => S wx [Ob g6 (.cells #[.int .i64 ((blk m).p), .int .i64 ((blk m).b), .int .i64 ((blk m).n)] 49 (0, 0)), ddI g1 sg o m, sgI sg c o A B a b]) [] (by kernel_rfl) H10 (fun wq11 H12 => ?_)
 have cm6 := H12.mask [true, true, true, false, false, false, false, false, false, false]
 refine w_t 0 rfl cm6 (fun _ _ => xf 10) ?_
 refine w_t 1 rfl cm6 (fun _ H => xl H 1) ?_
 refine w_t 2 rfl cm6 (fun _ _ => xn) ?_
 refine w_t 3 rfl cm6 (fun _ _ => xf (offP o + 5)) ?_
 refine w_t 4 rfl cm6 (fun _ H => x_load1 H 2 rfl rfl Try.underlying37 rfl rfl (sgC_p rfl rfl rfl)) ?_
 refine w_t (v := .agg #[.int .i64 ((blk m).p), .int .i64 ((blk m).b), .int .i64 ((blk m).n)]) 5 rfl cm6 (fun _ H => x_loadA H 0 rfl rfl Try.underlying49 rfl sz49 rfl rfl rfl) ?_
 refine a_one (i := 6) (by kernel_rfl) rfl ?_
 refine s_call0 H12 (wt0 rfl) (x_call' rfl rfl cl53) (contains_c b.wa B.pw B.cw (blk m) (by omega) _ (H12.rwReads (k := 7) rfl)) rfl rfl ?_
 intro wq13 H14
 have cm7 := H14.mask [true, true, true, false, false, false, false, false, false, false]
 refine a_k cm7 ?_
 refine w_t (v := .bool (!((chB b.wa (blk m))))) 7 rfl cm7 (fun _ _ => x_not (b := (chB b.wa (blk m))) rfl rfl) ?_
 refine w_t 8 rfl cm7 (fun _ _ => xa) ?_
 refine a_done (by kernel_rfl) ?_
 refine g_then ?_
 refine g_cond_f rfl (neg_of hq) ?_
 refine w_s ?_
 refine w_f 0 ?_
 refine w_1 H14 1 ?_
 refine w_r3 ?_
 refine w_v (x_load1 H14 2 rfl rfl Try.underlying4 rfl rfl (sgC_c rfl)) ?_
 refine w_a ?_
 refine w_e ?_
 refine g_weak [(1, .pointer (some ⟨g1, 0, none⟩)), (2, .pointer (some ⟨g6, 0, none⟩)), (18, .bool c.ft)] ⟨rfl, rfl, rfl, trivial⟩ ?_
 refine g_cond_f rfl hf ?_
 refine g_region ?_
 refine w_f 10 ?_
 refine w_1 H14 1 ?_
 refine w_v (v := .agg #[.int .i64 ((blk m).p), .int .i64 ((blk m).b), .int .i64 ((blk m).n)]) (x_loadA H14 0 rfl rfl Try.underlying49 rfl sz49 rfl rfl rfl) ?_
 refine l_of (s_call (wt0 rfl) (x_call' rfl rfl cl55) (drop_p sg c o A B a b (blk m) hok (by omega) _ (H14.takes [2, 3, 4, 5, 6, 7, 8] (by decide))) ?_)
 rintro _ wq15 ⟨rfl, H16⟩
 replace H16 : S wq15 [sgI sg c o A B a (b.drop (blk m)), alI A a, waI A a, goI A a, alI B (b.drop (blk m)), waI B (b.drop (blk m)), goI B (b.drop (blk m)), Ob g6 (.cells #[.int .i64 ((blk m).p), .int .i64 ((blk m).b), .int .i64 ((blk m).n)] 49 (0, 0)), ddI g1 sg o m, olS w sg c o A B a b] := by have h := H14.absorbI [2, 3, 4, 5, 6, 7, 8] H16; exact h
 refine b_ret rfl rfl ?_
 refine g_nil ?_
 refine g_in ?_
 refine fin_end [] [] rfl trivial ?_
 exact ⟨rfl, H16.takes [0, 1, 2, 3, 4, 5, 6, 9] (by decide)⟩
end Go.Proofs.Ytdkfkdekiljcoaa
