import Derived.Test.YtdkfkdekiljcoaaSY
set_option linter.unusedSimpArgs false
set_option linter.unusedVariables false
namespace Go.Proofs.Ytdkfkdekiljcoaa
open Go.RowKit

theorem ask_cells (l : List Ch) (x : Ch) : chV (l ++ [x]) = chV l ++ [.int .i64 x.p, .int .i64 x.b, .int .i64 x.n] := by rw [chV_app]; rfl
set_option maxRecDepth 20000 in
set_option maxHeartbeats 4000000 in
theorem requestS_o (sg : Nat) (c : Co) (o : Bool) (A B : Ad) (a b : Wy) (m : M) (hn : 0 ≤ c.n ∧ c.n ≤ 4096) (hV : Vf c.n.toNat b.fd) (hwl : b.wa.length ≤ 1099511627776) (hq : hasB c.n.toNat b.fd m.i1 = false) (w : World) (HS : S w [sgI sg c o A B a b, alI A a, waI A a, goI A a, alI B b, waI B b, goI B b]) : Calls Try.prog 50 #[.agg #[.pointer (some ⟨sg, 0, none⟩), .int .i64 (m.kind), .int .i64 (m.i1), .int .i64 (m.i2), .int .i64 (m.i3), .int .i64 (m.i4), .int .i64 (m.i5), .string (m.root), .string (m.data), .pointer (some ⟨sg, offO o, none⟩), .pointer (some ⟨sg, offP o, none⟩)]] w fun e w' => e = .panicked [{ v := .iface 72 (.int .i64 9), recovered := false }] ∧ S w' ([sgI sg c o A B a b, alI A a, waI A a, goI A a, alI B b, waI B b, goI B b] ++ [olS w sg c o A B a b]) := by
 have H0 := HS.beginI
 refine enter 62 Try.func50 rfl rfl rfl ?_
 refine g_weak [(0, .agg #[.pointer (some ⟨sg, 0, none⟩), .int .i64 (m.kind), .int .i64 (m.i1), .int .i64 (m.i2), .int .i64 (m.i3), .int .i64 (m.i4), .int .i64 (m.i5), .string (m.root), .string (m.data), .pointer (some ⟨sg, offO o, none⟩), .pointer (some ⟨sg, offP o, none⟩)])] ⟨rfl, trivial⟩ ?_
 refine w_s ?_
 refine l_of (s_box H0 (wt0 rfl) rfl rfl rfl rfl ?_)
 intro g1 wq2 H3
 refine w_e ?_
 refine w_s ?_
 refine w_v (v := .agg #[.pointer (some ⟨sg, 0, none⟩), .int .i64 (m.kind), .int .i64 (m.i1), .int .i64 (m.i2), .int .i64 (m.i3), .int .i64 (m.i4), .int .i64 (m.i5), .string (m.root), .string (m.data), .pointer (some ⟨sg, offO o, none⟩), .pointer (some ⟨sg, offP o, none⟩)]) (x_loadA H3 0 rfl rfl Try.underlying75 rfl sz75 rfl rfl rfl) ?_
 refine l_of (s_call0 H3 (wt0 rfl) (x_call' rfl rfl cl51) (block_o sg o m _) rfl rfl ?_)
 intro wq4 H5
 refine l_of (s_alloc H5 (wt0 rfl) rfl rfl rfl ze49 ?_)
 intro g6 wq7 H8
 refine l_of (w_st #[.int .i64 ((blk m).p), .int .i64 ((blk m).b), .int .i64 ((blk m).n)] H8 0 ?_)
 intro wq9 H10
 refine w_e ?_
 refine w_s ?_
 refine w_v (v := .agg #[.pointer (some ⟨sg, 0, none⟩), .int .i64 (m.kind), .int .i64 (m.i1), .int .i64 (m.i2), .int .i64 (m.i3), .int .i64 (m.i4), .int .i64 (m.i5), .string (m.root), .string (m.data), .pointer (some ⟨sg, offO o, none⟩), .pointer (some ⟨sg, offP o, none⟩)]) (x_loadA H10 1 rfl rfl Try.underlying75 rfl sz75 rfl rfl rfl) ?_
 refine w_f 10 ?_
 refine w_1 H10 1 ?_
 refine w_f 0 ?_
 refine w_1 H10 0 ?_
 refine l_of (s_call (wt0 rfl) (x_call' rfl rfl cl52) (hasd_op sg c o A B a b m ((blk m).p) hn hV _ (H10.takes [2, 3, 4, 5, 6, 7, 8] (by decide))) ?_)
 rintro _ wq11 ⟨rfl, H12⟩
 replace H12 : S wq11 [sgI sg c o A B a b, alI A a, waI A a, goI A a, alI B b, waI B b, goI B b, Ob g6 (.cells #[.int .i64 ((blk m).p), .int .i64 ((blk m).b), .int .i64 ((blk m).n)] 49 (0, 0)), ddI g1 sg o m, olS w sg c o A B a b] := by have h := H10.absorbI [2, 3, 4, 5, 6, 7, 8] H12; exact h
 refine b_ret rfl rfl ?_
 have hnd13 := need_bf hq 9 wq11
 refine l_of (s_call (wt0 rfl) (x_call' rfl rfl cl31) (hnd13) ?_)
 rintro _ wq14 ⟨rfl, H15⟩
 replace H15 : S wq14 [sgI sg c o A B a b, alI A a, waI A a, goI A a, alI B b, waI B b, goI B b, Ob g6 (.cells #[.int .i64 ((blk m).p), .int .i64 ((blk m).b), .int .i64 ((blk m).n)] 49 (0, 0)), ddI g1 sg o m, olS w sg c o A B a b] := H12.absorb (new := []) H15
 refine b_panic ?_
 refine g_then_panic ?_
 refine fin_panic ?_
 exact ⟨rfl, H15.takes [0, 1, 2, 3, 4, 5, 6, 9] (by decide)⟩
set_option maxRecDepth 20000 in
set_option maxHeartbeats 4000000 in
theorem requestQ_o (sg : Nat) (c : Co) (o : Bool) (A B : Ad) (a b : Wy) (m : M) (hn : 0 ≤ c.n ∧ c.n ≤ 4096) (hV : Vf c.n.toNat b.fd) (hwl : b.wa.length ≤ 1099511627776) (hq : hasB c.n.toNat b.fd m.i1 = true) (hf : c.ft = false) (hk : b.ck = true) (w : World) (HS : S w [sgI sg c o A B a b, alI A a, waI A a, goI A a, alI B b, waI B b, goI B b]) : Calls Try.prog 50 #[.agg #[.pointer (some ⟨sg, 0, none⟩), .int .i64 (m.kind), .int .i64 (m.i1), .int .i64 (m.i2), .int .i64 (m.i3), .int .i64 (m.i4), .int .i64 (m.i5), .string (m.root), .string (m.data), .pointer (some ⟨sg, offO o, none⟩), .pointer (some ⟨sg, offP o, none⟩)]] w fun e w' => e = .returned (.tuple #[]) ∧ S w' ([sgI sg c o A B a b, alI A a, waI A a, goI A a, alI B b, waI B b, goI B b] ++ [olS w sg c o A B a b]) := by
 have H0 := HS.beginI
 refine enter 62 Try.func50 rfl rfl rfl ?_
 refine g_weak [(0, .agg #[.pointer (some ⟨sg, 0, none⟩), .int .i64 (m.kind), .int .i64 (m.i1), .int .i64 (m.i2), .int .i64 (m.i3), .int .i64 (m.i4), .int .i64 (m.i5), .string (m.root), .string (m.data), .pointer (some ⟨sg, offO o, none⟩), .pointer (some ⟨sg, offP o, none⟩)])] ⟨rfl, trivial⟩ ?_
 refine w_s ?_
 refine l_of (s_box H0 (wt0 rfl) rfl rfl rfl rfl ?_)
 intro g1 wq2 H3
 refine w_e ?_
 refine w_s ?_
 refine w_v (v := .agg #[.pointer (some ⟨sg, 0, none⟩), .int .i64 (m.kind), .int .i64 (m.i1), .int .i64 (m.i2), .int .i64 (m.i3), .int .i64 (m.i4), .int .i64 (m.i5), .string (m.root), .string (m.data), .pointer (some ⟨sg, offO o, none⟩), .pointer (some ⟨sg, offP o, none⟩)]) (x_loadA H3 0 rfl rfl Try.underlying75 rfl sz75 rfl rfl rfl) ?_
 refine l_of (s_call0 H3 (wt0 rfl) (x_call' rfl rfl cl51) (block_o sg o m _) rfl rfl ?_)
 intro wq4 H5
 refine l_of (s_alloc H5 (wt0 rfl) rfl rfl rfl ze49 ?_)
 intro g6 wq7 H8
 refine l_of (w_st #[.int .i64 ((blk m).p), .int .i64 ((blk m).b), .int .i64 ((blk m).n)] H8 0 ?_)
 intro wq9 H10
 refine w_e ?_
 refine w_s ?_
 refine w_v (v := .agg #[.pointer (some ⟨sg, 0, none⟩), .int .i64 (m.kind), .int .i64 (m.i1), .int .i64 (m.i2), .int .i64 (m.i3), .int .i64 (m.i4), .int .i64 (m.i5), .string (m.root), .string (m.data), .pointer (some ⟨sg, offO o, none⟩), .pointer (some ⟨sg, offP o, none⟩)]) (x_loadA H10 1 rfl rfl Try.underlying75 rfl sz75 rfl rfl rfl) ?_
 refine w_f 10 ?_
 refine w_1 H10 1 ?_
 refine w_f 0 ?_
 refine w_1 H10 0 ?_
 refine l_of (s_call (wt0 rfl) (x_call' rfl rfl cl52) (hasd_op sg c o A B a b m ((blk m).p) hn hV _ (H10.takes [2, 3, 4, 5, 6, 7, 8] (by decide))) ?_)
 rintro _ wq11 ⟨rfl, H12⟩
 replace H12 : S wq11 [sgI sg c o A B a b, alI A a, waI A a, goI A a, alI B b, waI B b, goI B b, Ob g6 (.cells #[.int .i64 ((blk m).p), .int .i64 ((blk m).b), .int .i64 ((blk m).n)] 49 (0, 0)), ddI g1 sg o m, olS w sg c o A B a b] := by have h := H10.absorbI [2, 3, 4, 5, 6, 7, 8] H12; exact h
 refine b_ret rfl rfl ?_
 have hnd13 := need_bt hq 9 wq11
 refine l_of (s_call0 H12 (wt0 rfl) (x_call' rfl rfl cl31) (hnd13) rfl rfl ?_)
 intro wq14 H15
 refine w_e ?_
 refine g_seq ?_
 refine w_s ?_
 refine w_f 0 ?_
 refine w_1 H15 8 ?_
 refine w_r3 ?_
 refine w_v (x_load1 H15 0 rfl rfl Try.underlying4 rfl rfl (sgC_c rfl)) ?_
 refine w_v (v := .bool (!(c.ft))) (x_not (b := c.ft) rfl rfl) ?_
 refine w_m ?_
 refine w_g (neg_of hf) (xf 10) ?_
 refine w_g (neg_of hf) (xl H15 8) ?_
 refine w_g (neg_of hf) xn ?_
 refine w_g (neg_of hf) (xf (offP o + 1)) ?_
 refine w_g (neg_of hf) (x_load1 H15 0 rfl rfl Try.underlying4 rfl rfl (sgC_p rfl rfl rfl)) ?_
 refine w_v (v := .bool b.ck) (x_pick_t rfl rfl (neg_of hf) rfl) ?_
 refine w_e ?_
 refine g_weak [(1, .pointer (some ⟨g1, 0, none⟩)), (2, .pointer (some ⟨g6, 0, none⟩)), (25, .bool b.ck)] ⟨rfl, rfl, rfl, trivial⟩ ?_
 refine g_cond_t rfl hk ?_
 refine g_ret ?_
 refine g_then_ret ?_
 refine fin_ret [] [] rfl trivial ?_
 exact ⟨rfl, H15.takes [0, 1, 2, 3, 4, 5, 6, 9] (by decide)⟩
set_option maxRecDepth 20000 in
set_option maxHeartbeats 4000000 in
theorem requestDF_o (sg : Nat) (c : Co) (o : Bool) (A B : Ad) (a b : Wy) (m : M) (hn : 0 ≤ c.n ∧ c.n ≤ 4096) (hV : Vf c.n.toNat b.fd) (hwl : b.wa.length ≤ 1099511627776) (hq : hasB c.n.toNat b.fd m.i1 = true) (hf : c.ft = true) (hc : chB b.wa (blk m) = true) (w : World) (HS : S w [sgI sg c o A B a b, alI A a, waI A a, goI A a, alI B b, waI B b, goI B b]) : Calls Try.prog 50 #[.agg #[.pointer (some ⟨sg, 0, none⟩), .int .i64 (m.kind), .int .i64 (m.i1), .int .i64 (m.i2), .int .i64 (m.i3), .int .i64 (m.i4), .int .i64 (m.i5), .string (m.root), .string (m.data), .pointer (some ⟨sg, offO o, none⟩), .pointer (some ⟨sg, offP o, none⟩)]] w fun e w' => e = .panicked [{ v := .iface 72 (.int .i64 6), recovered := false }] ∧ S w' ([sgI sg c o A B a b, alI A a, waI A a, goI A a, alI B b, waI B b, goI B b] ++ [olS w sg c o A B a b]) := by
 have H0 := HS.beginI
 refine enter 62 Try.func50 rfl rfl rfl ?_
 refine g_weak [(0, .agg #[.pointer (some ⟨sg, 0, none⟩), .int .i64 (m.kind), .int .i64 (m.i1), .int .i64 (m.i2), .int .i64 (m.i3), .int .i64 (m.i4), .int .i64 (m.i5), .string (m.root), .string (m.data), .pointer (some ⟨sg, offO o, none⟩), .pointer (some ⟨sg, offP o, none⟩)])] ⟨rfl, trivial⟩ ?_
 refine w_s ?_
 refine l_of (s_box H0 (wt0 rfl) rfl rfl rfl rfl ?_)
 intro g1 wq2 H3
 refine w_e ?_
 refine w_s ?_
 refine w_v (v := .agg #[.pointer (some ⟨sg, 0, none⟩), .int .i64 (m.kind), .int .i64 (m.i1), .int .i64 (m.i2), .int .i64 (m.i3), .int .i64 (m.i4), .int .i64 (m.i5), .string (m.root), .string (m.data), .pointer (some ⟨sg, offO o, none⟩), .pointer (some ⟨sg, offP o, none⟩)]) (x_loadA H3 0 rfl rfl Try.underlying75 rfl sz75 rfl rfl rfl) ?_
 refine l_of (s_call0 H3 (wt0 rfl) (x_call' rfl rfl cl51) (block_o sg o m _) rfl rfl ?_)
 intro wq4 H5
 refine l_of (s_alloc H5 (wt0 rfl) rfl rfl rfl ze49 ?_)
 intro g6 wq7 H8
 refine l_of (w_st #[.int .i64 ((blk m).p), .int .i64 ((blk m).b), .int .i64 ((blk m).n)] H8 0 ?_)
 intro wq9 H10
 refine w_e ?_
 refine w_s ?_
 refine w_v (v := .agg #[.pointer (some ⟨sg, 0, none⟩), .int .i64 (m.kind), .int .i64 (m.i1), .int .i64 (m.i2), .int .i64 (m.i3), .int .i64 (m.i4), .int .i64 (m.i5), .string (m.root), .string (m.data), .pointer (some ⟨sg, offO o, none⟩), .pointer (some ⟨sg, offP o, none⟩)]) (x_loadA H10 1 rfl rfl Try.underlying75 rfl sz75 rfl rfl rfl) ?_
 refine w_f 10 ?_
 refine w_1 H10 1 ?_
 refine w_f 0 ?_
 refine w_1 H10 0 ?_
 refine l_of (s_call (wt0 rfl) (x_call' rfl rfl cl52) (hasd_op sg c o A B a b m ((blk m).p) hn hV _ (H10.takes [2, 3, 4, 5, 6, 7, 8] (by decide))) ?_)
 rintro _ wq11 ⟨rfl, H12⟩
 replace H12 : S wq11 [sgI sg c o A B a b, alI A a, waI A a, goI A a, alI B b, waI B b, goI B b, Ob g6 (.cells #[.int .i64 ((blk m).p), .int .i64 ((blk m).b), .int .i64 ((blk m).n)] 49 (0, 0)), ddI g1 sg o m, olS w sg c o A B a b] := by have h := H10.absorbI [2, 3, 4, 5, 6, 7, 8] H12; exact h
 refine b_ret rfl rfl ?_
 have hnd13 := need_bt hq 9 wq11
 refine l_of (s_call0 H12 (wt0 rfl) (x_call' rfl rfl cl31) (hnd13) rfl rfl ?_)
 intro wq14 H15
 refine w_e ?_
 refine g_seq ?_
 refine w_s ?_
 refine w_f 0 ?_
 refine w_1 H15 8 ?_
 refine w_r3 ?_
 refine w_v (x_load1 H15 0 rfl rfl Try.underlying4 rfl rfl (sgC_c rfl)) ?_
 refine w_v (v := .bool (!(c.ft))) (x_not (b := c.ft) rfl rfl) ?_
 refine w_m ?_
 refine w_n (neg_of hf) ?_
 refine w_n (neg_of hf) ?_
 refine w_n (neg_of hf) ?_
 refine w_n (neg_of hf) ?_
 refine w_n (neg_of hf) ?_
 refine w_v (v := .bool false) (x_pick_f rfl rfl (neg_of hf) rfl) ?_
 refine w_e ?_
 refine g_weak [(1, .pointer (some ⟨g1, 0, none⟩)), (2, .pointer (some ⟨g6, 0, none⟩)), (25, .bool false)] ⟨rfl, rfl, rfl, trivial⟩ ?_
 refine g_cond_f rfl rfl ?_
 refine g_skip ?_
 refine g_then ?_
 refine g_seq ?_
 refine g_any [(1, .pointer (some ⟨g1, 0, none⟩)), (2, .pointer (some ⟨g6, 0, none⟩)), (25, .bool false)] (fun wx => S wx [sgI sg c o A B a b, Ob g6 (.cells #[.int .i64 ((blk m).p), .int .i64 ((blk m).b), .int .i64 ((blk m).n)] 49 (0, 0)), ddI g1 sg o m]) [] (by kernel_rfl) H15 (fun wq16 H17 => ?_)
 have cm1 := H17.mask [true, false, false, false, false, false, false, true, true, false]
 refine w_t 0 rfl cm1 (fun _ _ => xf 10) ?_
 refine w_t 1 rfl cm1 (fun _ H => xl H 2) ?_
 refine w_t 2 rfl cm1 (fun _ _ => xn) ?_
 refine w_t 3 rfl cm1 (fun _ _ => xf (offP o + 5)) ?_
 refine w_t 4 rfl cm1 (fun _ H => x_load1 H 0 rfl rfl Try.underlying37 rfl rfl (sgC_p rfl rfl rfl)) ?_
 refine w_t (v := .agg #[.int .i64 ((blk m).p), .int .i64 ((blk m).b), .int .i64 ((blk m).n)]) 5 rfl cm1 (fun _ H => x_loadA H 1 rfl rfl Try.underlying49 rfl sz49 rfl rfl rfl) ?_
 refine a_one (i := 6) (by kernel_rfl) rfl ?_
 refine s_call0 H17 (wt0 rfl) (x_call' rfl rfl cl53) (contains_c b.wa B.pw B.cw (blk m) (by omega) _ (H17.rwReads (k := 5) rfl)) rfl rfl ?_
 intro wq18 H19
 have cm2 := H19.mask [true, false, false, false, false, false, false, true, true, false]
 refine a_k cm2 ?_
 refine w_t (v := .bool (!((chB b.wa (blk m))))) 7 rfl cm2 (fun _ _ => x_not (b := (chB b.wa (blk m))) rfl rfl) ?_
 refine a_one (i := 8) (by kernel_rfl) rfl ?_
 have hnd20 := need_bf (show (!((chB b.wa (blk m)))) = false by rw [hc]; rfl) 6 wq18
 refine s_call (wt0 rfl) (x_call' rfl rfl cl31) (hnd20) ?_
 rintro _ wq21 ⟨rfl, H22⟩
 replace H22 : S wq21 [sgI sg c o A B a b, alI A a, waI A a, goI A a, alI B b, waI B b, goI B b, Ob g6 (.cells #[.int .i64 ((blk m).p), .int .i64 ((blk m).b), .int .i64 ((blk m).n)] 49 (0, 0)), ddI g1 sg o m, olS w sg c o A B a b] := H19.absorb (new := []) H22
 refine b_panic ?_
 refine pan_in ⟨rfl, rfl, rfl, trivial⟩ ?_
 refine g_then_panic ?_
 refine fin_panic ?_
 exact ⟨rfl, H22.takes [0, 1, 2, 3, 4, 5, 6, 9] (by decide)⟩
set_option maxRecDepth 20000 in
set_option maxHeartbeats 4000000 in
theorem requestFF_o (sg : Nat) (c : Co) (o : Bool) (A B : Ad) (a b : Wy) (m : M) (hn : 0 ≤ c.n ∧ c.n ≤ 4096) (hV : Vf c.n.toNat b.fd) (hwl : b.wa.length ≤ 1099511627776) (hq : hasB c.n.toNat b.fd m.i1 = true) (hf : c.ft = true) (hc : chB b.wa (blk m) = false) (hl : c.qu ≤ (b.wa.length : Int)) (w : World) (HS : S w [sgI sg c o A B a b, alI A a, waI A a, goI A a, alI B b, waI B b, goI B b]) : Calls Try.prog 50 #[.agg #[.pointer (some ⟨sg, 0, none⟩), .int .i64 (m.kind), .int .i64 (m.i1), .int .i64 (m.i2), .int .i64 (m.i3), .int .i64 (m.i4), .int .i64 (m.i5), .string (m.root), .string (m.data), .pointer (some ⟨sg, offO o, none⟩), .pointer (some ⟨sg, offP o, none⟩)]] w fun e w' => e = .panicked [{ v := .iface 72 (.int .i64 14), recovered := false }] ∧ S w' ([sgI sg c o A B a b, alI A a, waI A a, goI A a, alI B b, waI B b, goI B b] ++ [olS w sg c o A B a b]) := by
 have H0 := HS.beginI
 refine enter 62 Try.func50 rfl rfl rfl ?_
 refine g_weak [(0, .agg #[.pointer (some ⟨sg, 0, none⟩), .int .i64 (m.kind), .int .i64 (m.i1), .int .i64 (m.i2), .int .i64 (m.i3), .int .i64 (m.i4), .int .i64 (m.i5), .string (m.root), .string (m.data), .pointer (some ⟨sg, offO o, none⟩), .pointer (some ⟨sg, offP o, none⟩)])] ⟨rfl, trivial⟩ ?_
 refine w_s ?_
 refine l_of (s_box H0 (wt0 rfl) rfl rfl rfl rfl ?_)
 intro g1 wq2 H3
 refine w_e ?_
 refine w_s ?_
 refine w_v (v := .agg #[.pointer (some ⟨sg, 0, none⟩), .int .i64 (m.kind), .int .i64 (m.i1), .int .i64 (m.i2), .int .i64 (m.i3), .int .i64 (m.i4), .int .i64 (m.i5), .string (m.root), .string (m.data), .pointer (some ⟨sg, offO o, none⟩), .pointer (some ⟨sg, offP o, none⟩)]) (x_loadA H3 0 rfl rfl Try.underlying75 rfl sz75 rfl rfl rfl) ?_
 refine l_of (s_call0 H3 (wt0 rfl) (x_call' rfl rfl cl51) (block_o sg o m _) rfl rfl ?_)
 intro wq4 H5
 refine l_of (s_alloc H5 (wt0 rfl) rfl rfl rfl ze49 ?_)
 intro g6 wq7 H8
 refine l_of (w_st #[.int .i64 ((blk m).p), .int .i64 ((blk m).b), .int .i64 ((blk m).n)] H8 0 ?_)
 intro wq9 H10
 refine w_e ?_
 refine w_s ?_
 refine w_v (v := .agg #[.pointer (some ⟨sg, 0, none⟩), .int .i64 (m.kind), .int .i64 (m.i1), .int .i64 (m.i2), .int .i64 (m.i3), .int .i64 (m.i4), .int .i64 (m.i5), .string (m.root), .string (m.data), .pointer (some ⟨sg, offO o, none⟩), .pointer (some ⟨sg, offP o, none⟩)]) (x_loadA H10 1 rfl rfl Try.underlying75 rfl sz75 rfl rfl rfl) ?_
 refine w_f 10 ?_
 refine w_1 H10 1 ?_
 refine w_f 0 ?_
 refine w_1 H10 0 ?_
 refine l_of (s_call (wt0 rfl) (x_call' rfl rfl cl52) (hasd_op sg c o A B a b m ((blk m).p) hn hV _ (H10.takes [2, 3, 4, 5, 6, 7, 8] (by decide))) ?_)
 rintro _ wq11 ⟨rfl, H12⟩
 replace H12 : S wq11 [sgI sg c o A B a b, alI A a, waI A a, goI A a, alI B b, waI B b, goI B b, Ob g6 (.cells #[.int .i64 ((blk m).p), .int .i64 ((blk m).b), .int .i64 ((blk m).n)] 49 (0, 0)), ddI g1 sg o m, olS w sg c o A B a b] := by have h := H10.absorbI [2, 3, 4, 5, 6, 7, 8] H12; exact h
 refine b_ret rfl rfl ?_
 have hnd13 := need_bt hq 9 wq11
 refine l_of (s_call0 H12 (wt0 rfl) (x_call' rfl rfl cl31) (hnd13) rfl rfl ?_)
 intro wq14 H15
 refine w_e ?_
 refine g_seq ?_
 refine w_s ?_
 refine w_f 0 ?_
 refine w_1 H15 8 ?_
 refine w_r3 ?_
 refine w_v (x_load1 H15 0 rfl rfl Try.underlying4 rfl rfl (sgC_c rfl)) ?_
 refine w_v (v := .bool (!(c.ft))) (x_not (b := c.ft) rfl rfl) ?_
 refine w_m ?_
 refine w_n (neg_of hf) ?_
 refine w_n (neg_of hf) ?_
 refine w_n (neg_of hf) ?_
 refine w_n (neg_of hf) ?_
 refine w_n (neg_of hf) ?_
 refine w_v (v := .bool false) (x_pick_f rfl rfl (neg_of hf) rfl) ?_
 refine w_e ?_
 refine g_weak [(1, .pointer (some ⟨g1, 0, none⟩)), (2, .pointer (some ⟨g6, 0, none⟩)), (25, .bool false)] ⟨rfl, rfl, rfl, trivial⟩ ?_
 refine g_cond_f rfl rfl ?_
 refine g_skip ?_
 refine g_then ?_
 refine g_seq ?_
 refine g_any [(1, .pointer (some ⟨g1, 0, none⟩)), (2, .pointer (some ⟨g6, 0, none⟩)), (25, .bool false)] (fun wx => S wx [sgI sg c o A B a b, Ob g6 (.cells #[.int .i64 ((blk m).p), .int .i64 ((blk m).b), .int .i64 ((blk m).n)] 49 (0, 0)), ddI g1 sg o m]) [] (by kernel_rfl) H15 (fun wq16 H17 => ?_)
 have cm3 := H17.mask [true, false, false, false, false, false, false, true, true, false]
 refine w_t 0 rfl cm3 (fun _ _ => xf 10) ?_
 refine w_t 1 rfl cm3 (fun _ H => xl H 2) ?_
 refine w_t 2 rfl cm3 (fun _ _ => xn) ?_
 refine w_t 3 rfl cm3 (fun _ _ => xf (offP o + 5)) ?_
 refine w_t 4 rfl cm3 (fun _ H => x_load1 H 0 rfl rfl Try.underlying37 rfl rfl (sgC_p rfl rfl rfl)) ?_
 refine w_t (v := .agg #[.int .i64 ((blk m).p), .int .i64 ((blk m).b), .int .i64 ((blk m).n)]) 5 rfl cm3 (fun _ H => x_loadA H 1 rfl rfl Try.underlying49 rfl sz49 rfl rfl rfl) ?_
 refine a_one (i := 6) (by kernel_rfl) rfl ?_
 refine s_call0 H17 (wt0 rfl) (x_call' rfl rfl cl53) (contains_c b.wa B.pw B.cw (blk m) (by omega) _ (H17.rwReads (k := 5) rfl)) rfl rfl ?_
 intro wq18 H19
 have cm4 := H19.mask [true, false, false, false, false, false, false, true, true, false]
 refine a_k cm4 ?_
 refine w_t (v := .bool (!((chB b.wa (blk m))))) 7 rfl cm4 (fun _ _ => x_not (b := (chB b.wa (blk m))) rfl rfl) ?_
 refine a_one (i := 8) (by kernel_rfl) rfl ?_
 have hnd20 := need_bt (show (!((chB b.wa (blk m)))) = true by rw [hc]; rfl) 6 wq18
 refine s_call0 H19 (wt0 rfl) (x_call' rfl rfl cl31) (hnd20) rfl rfl ?_
 intro wq21 H22
 have cm5 := H22.mask [true, false, false, false, false, false, false, true, true, false]
 refine a_k cm5 ?_
 refine a_done (by kernel_rfl) ?_
 refine g_then ?_
 refine g_seq ?_
 refine g_any [(1, .pointer (some ⟨g1, 0, none⟩)), (2, .pointer (some ⟨g6, 0, none⟩)), (25, .bool false), (26, .pointer (some ⟨g1, 10, none⟩)), (27, .pointer (some ⟨sg, offP o, none⟩)), (28, .pointer (some ⟨sg, offP o, none⟩)), (29, .pointer (some ⟨sg, offP o + 5, none⟩)), (30, .slice B.pw b.wa.length B.cw), (31, .agg #[.int .i64 ((blk m).p), .int .i64 ((blk m).b), .int .i64 ((blk m).n)]), (32, .bool ((chB b.wa (blk m)))), (33, .bool (!((chB b.wa (blk m))))), (34, .tuple #[])] (fun wx => S wx [sgI sg c o A B a b, ddI g1 sg o m]) [] (by kernel_rfl) H22 (fun wq23 H24 => ?_)
 have cm6 := H24.mask [true, false, false, false, false, false, false, false, true, false]
 refine w_t 0 rfl cm6 (fun _ _ => xf 10) ?_
 refine w_t 1 rfl cm6 (fun _ H => xl H 1) ?_
 refine w_t 2 rfl cm6 (fun _ _ => xn) ?_
 refine w_t 3 rfl cm6 (fun _ _ => xf (offP o + 5)) ?_
 refine w_t 4 rfl cm6 (fun _ H => x_load1 H 0 rfl rfl Try.underlying37 rfl rfl (sgC_p rfl rfl rfl)) ?_
 refine w_t (v := .int .i64 ((b.wa.length : Int))) 5 rfl cm6 (fun _ _ => x_lenl rfl rfl Try.underlying37) ?_
 refine w_t 6 rfl cm6 (fun _ _ => xf 0) ?_
 refine w_t 7 rfl cm6 (fun _ H => xl H 1) ?_
 refine w_t 8 rfl cm6 (fun _ _ => xn) ?_
 refine w_t 9 rfl cm6 (fun _ _ => xf 0) ?_
 refine w_t 10 rfl cm6 (fun _ _ => xf 3) ?_
 refine w_t 11 rfl cm6 (fun _ H => x_load1 H 0 rfl rfl Try.underlying3 rfl rfl (sgC_c rfl)) ?_
 refine w_t 12 rfl cm6 (fun _ _ => x_bin rfl rfl rfl b_lss) ?_
 refine a_one (i := 13) (by kernel_rfl) rfl ?_
 have hnd25 := need_bf (show (decide (((b.wa.length : Int) : Int) < c.qu)) = false from (decide_eq_false (by omega))) 14 wq23
 refine s_call (wt0 rfl) (x_call' rfl rfl cl31) (hnd25) ?_
 rintro _ wq26 ⟨rfl, H27⟩
 replace H27 : S wq26 [sgI sg c o A B a b, alI A a, waI A a, goI A a, alI B b, waI B b, goI B b, Ob g6 (.cells #[.int .i64 ((blk m).p), .int .i64 ((blk m).b), .int .i64 ((blk m).n)] 49 (0, 0)), ddI g1 sg o m, olS w sg c o A B a b] := H24.absorb (new := []) H27
 refine b_panic ?_
 refine pan_in ⟨rfl, rfl, rfl, rfl, rfl, rfl, rfl, rfl, rfl, rfl, rfl, rfl, trivial⟩ ?_
 refine g_then_panic ?_
 refine fin_panic ?_
 exact ⟨rfl, H27.takes [0, 1, 2, 3, 4, 5, 6, 9] (by decide)⟩
set_option maxRecDepth 20000 in
set_option maxHeartbeats 4000000 in
theorem requestAF_o (sg : Nat) (c : Co) (o : Bool) (A B : Ad) (a b : Wy) (m : M) (hn : 0 ≤ c.n ∧ c.n ≤ 4096) (hV : Vf c.n.toNat b.fd) (hwl : b.wa.length ≤ 1099511627776) (hq : hasB c.n.toNat b.fd m.i1 = true) (hf : c.ft = true) (hc : chB b.wa (blk m) = false) (hl : (b.wa.length : Int) < c.qu) (w : World) (HS : S w [sgI sg c o A B a b, alI A a, waI A a, goI A a, alI B b, waI B b, goI B b]) : Calls Try.prog 50 #[.agg #[.pointer (some ⟨sg, 0, none⟩), .int .i64 (m.kind), .int .i64 (m.i1), .int .i64 (m.i2), .int .i64 (m.i3), .int .i64 (m.i4), .int .i64 (m.i5), .string (m.root), .string (m.data), .pointer (some ⟨sg, offO o, none⟩), .pointer (some ⟨sg, offP o, none⟩)]] w fun e w' => ∃ A' : Ad, e = .returned (.tuple #[]) ∧ S w' ([sgI sg c o A A' a (b.ask (blk m)), alI A a, waI A a, goI A a, alI A' (b.ask (blk m)), waI A' (b.ask (blk m)), goI A' (b.ask (blk m))] ++ [olS w sg c o A B a b]) := by
 have H0 := HS.beginI
 refine enter 62 Try.func50 rfl rfl rfl ?_
 refine g_weak [(0, .agg #[.pointer (some ⟨sg, 0, none⟩), .int .i64 (m.kind), .int .i64 (m.i1), .int .i64 (m.i2), .int .i64 (m.i3), .int .i64 (m.i4), .int .i64 (m.i5), .string (m.root), .string (m.data), .pointer (some ⟨sg, offO o, none⟩), .pointer (some ⟨sg, offP o, none⟩)])] ⟨rfl, trivial⟩ ?_
 refine w_s ?_
 refine l_of (s_box H0 (wt0 rfl) rfl rfl rfl rfl ?_)
 intro g1 wq2 H3
 refine w_e ?_
 refine w_s ?_
 refine w_v (v := .agg #[.pointer (some ⟨sg, 0, none⟩), .int .i64 (m.kind), .int .i64 (m.i1), .int .i64 (m.i2), .int .i64 (m.i3), .int .i64 (m.i4), .int .i64 (m.i5), .string (m.root), .string (m.data), .pointer (some ⟨sg, offO o, none⟩), .pointer (some ⟨sg, offP o, none⟩)]) (x_loadA H3 0 rfl rfl Try.underlying75 rfl sz75 rfl rfl rfl) ?_
 refine l_of (s_call0 H3 (wt0 rfl) (x_call' rfl rfl cl51) (block_o sg o m _) rfl rfl ?_)
 intro wq4 H5
 refine l_of (s_alloc H5 (wt0 rfl) rfl rfl rfl ze49 ?_)
 intro g6 wq7 H8
 refine l_of (w_st #[.int .i64 ((blk m).p), .int .i64 ((blk m).b), .int .i64 ((blk m).n)] H8 0 ?_)
 intro wq9 H10
 refine w_e ?_
 refine w_s ?_
 refine w_v (v := .agg #[.pointer (some ⟨sg, 0, none⟩), .int .i64 (m.kind), .int .i64 (m.i1), .int .i64 (m.i2), .int .i64 (m.i3), .int .i64 (m.i4), .int .i64 (m.i5), .string (m.root), .string (m.data), .pointer (some ⟨sg, offO o, none⟩), .pointer (some ⟨sg, offP o, none⟩)]) (x_loadA H10 1 rfl rfl Try.underlying75 rfl sz75 rfl rfl rfl) ?_
 refine w_f 10 ?_
 refine w_1 H10 1 ?_
 refine w_f 0 ?_
 refine w_1 H10 0 ?_
 refine l_of (s_call (wt0 rfl) (x_call' rfl rfl cl52) (hasd_op sg c o A B a b m ((blk m).p) hn hV _ (H10.takes [2, 3, 4, 5, 6, 7, 8] (by decide))) ?_)
 rintro _ wq11 ⟨rfl, H12⟩
 replace H12 : S wq11 [sgI sg c o A B a b, alI A a, waI A a, goI A a, alI B b, waI B b, goI B b, Ob g6 (.cells #[.int .i64 ((blk m).p), .int .i64 ((blk m).b), .int .i64 ((blk m).n)] 49 (0, 0)), ddI g1 sg o m, olS w sg c o A B a b] := by have h := H10.absorbI [2, 3, 4, 5, 6, 7, 8] H12; exact h
 refine b_ret rfl rfl ?_
 have hnd13 := need_bt hq 9 wq11
 refine l_of (s_call0 H12 (wt0 rfl) (x_call' rfl rfl cl31) (hnd13) rfl rfl ?_)
 intro wq14 H15
 refine w_e ?_
 refine g_seq ?_
 refine w_s ?_
 refine w_f 0 ?_
 refine w_1 H15 8 ?_
 refine w_r3 ?_
 refine w_v (x_load1 H15 0 rfl rfl Try.underlying4 rfl rfl (sgC_c rfl)) ?_
 refine w_v (v := .bool (!(c.ft))) (x_not (b := c.ft) rfl rfl) ?_
 refine w_m ?_
 refine w_n (neg_of hf) ?_
 refine w_n (neg_of hf) ?_
 refine w_n (neg_of hf) ?_
 refine w_n (neg_of hf) ?_
 refine w_n (neg_of hf) ?_
 refine w_v (v := .bool false) (x_pick_f rfl rfl (neg_of hf) rfl) ?_
 refine w_e ?_
 refine g_weak [(1, .pointer (some ⟨g1, 0, none⟩)), (2, .pointer (some ⟨g6, 0, none⟩)), (25, .bool false)] ⟨rfl, rfl, rfl, trivial⟩ ?_
 refine g_cond_f rfl rfl ?_
 refine g_skip ?_
 refine g_then ?_
 refine g_seq ?_
 refine g_any [(1, .pointer (some ⟨g1, 0, none⟩)), (2, .pointer (some ⟨g6, 0, none⟩)), (25, .bool false)] (fun wx => S wx [sgI sg c o A B a b, Ob g6 (.cells #[.int .i64 ((blk m).p), .int .i64 ((blk m).b), .int .i64 ((blk m).n)] 49 (0, 0)), ddI g1 sg o m]) [] (by kernel_rfl) H15 (fun wq16 H17 => ?_)
 have cm7 := H17.mask [true, false, false, false, false, false, false, true, true, false]
 refine w_t 0 rfl cm7 (fun _ _ => xf 10) ?_
 refine w_t 1 rfl cm7 (fun _ H => xl H 2) ?_
 refine w_t 2 rfl cm7 (fun _ _ => xn) ?_
 refine w_t 3 rfl cm7 (fun _ _ => xf (offP o + 5)) ?_
 refine w_t 4 rfl cm7 (fun _ H => x_load1 H 0 rfl rfl Try.underlying37 rfl rfl (sgC_p rfl rfl rfl)) ?_
 refine w_t (v := .agg #[.int .i64 ((blk m).p), .int .i64 ((blk m).b), .int .i64 ((blk m).n)]) 5 rfl cm7 (fun _ H => x_loadA H 1 rfl rfl Try.underlying49 rfl sz49 rfl rfl rfl) ?_
 refine a_one (i := 6) (by kernel_rfl) rfl ?_
 refine s_call0 H17 (wt0 rfl) (x_call' rfl rfl cl53) (contains_c b.wa B.pw B.cw (blk m) (by omega) _ (H17.rwReads (k := 5) rfl)) rfl rfl ?_
 intro wq18 H19
 have cm8 := H19.mask [true, false, false, false, false, false, false, true, true, false]
 refine a_k cm8 ?_
 refine w_t (v := .bool (!((chB b.wa (blk m))))) 7 rfl cm8 (fun _ _ => x_not (b := (chB b.wa (blk m))) rfl rfl) ?_
 refine a_one (i := 8) (by kernel_rfl) rfl ?_
 have hnd20 := need_bt (show (!((chB b.wa (blk m)))) = true by rw [hc]; rfl) 6 wq18
 refine s_call0 H19 (wt0 rfl) (x_call' rfl rfl cl31) (hnd20) rfl rfl ?_
 intro wq21 H22
 have cm9 := H22.mask [true, false, false, false, false, false, false, true, true, false]
 refine a_k cm9 ?_
 refine a_done (by kernel_rfl) ?_
 refine g_then ?_
 refine g_seq ?_
 refine g_any [(1, .pointer (some ⟨g1, 0, none⟩)), (2, .pointer (some ⟨g6, 0, none⟩)), (25, .bool false), (26, .pointer (some ⟨g1, 10, none⟩)), (27, .pointer (some ⟨sg, offP o, none⟩)), (28, .pointer (some ⟨sg, offP o, none⟩)), (29, .pointer (some ⟨sg, offP o + 5, none⟩)), (30, .slice B.pw b.wa.length B.cw), (31, .agg #[.int .i64 ((blk m).p), .int .i64 ((blk m).b), .int .i64 ((blk m).n)]), (32, .bool ((chB b.wa (blk m)))), (33, .bool (!((chB b.wa (blk m))))), (34, .tuple #[])] (fun wx => S wx [sgI sg c o A B a b, ddI g1 sg o m]) [] (by kernel_rfl) H22 (fun wq23 H24 => ?_)
 have cm10 := H24.mask [true, false, false, false, false, false, false, false, true, false]
 refine w_t 0 rfl cm10 (fun _ _ => xf 10) ?_
 refine w_t 1 rfl cm10 (fun _ H => xl H 1) ?_
 refine w_t 2 rfl cm10 (fun _ _ => xn) ?_
 refine w_t 3 rfl cm10 (fun _ _ => xf (offP o + 5)) ?_
 refine w_t 4 rfl cm10 (fun _ H => x_load1 H 0 rfl rfl Try.underlying37 rfl rfl (sgC_p rfl rfl rfl)) ?_
 refine w_t (v := .int .i64 ((b.wa.length : Int))) 5 rfl cm10 (fun _ _ => x_lenl rfl rfl Try.underlying37) ?_
 refine w_t 6 rfl cm10 (fun _ _ => xf 0) ?_
 refine w_t 7 rfl cm10 (fun _ H => xl H 1) ?_
 refine w_t 8 rfl cm10 (fun _ _ => xn) ?_
 refine w_t 9 rfl cm10 (fun _ _ => xf 0) ?_
 refine w_t 10 rfl cm10 (fun _ _ => xf 3) ?_
 refine w_t 11 rfl cm10 (fun _ H => x_load1 H 0 rfl rfl Try.underlying3 rfl rfl (sgC_c rfl)) ?_
 refine w_t 12 rfl cm10 (fun _ _ => x_bin rfl rfl rfl b_lss) ?_
 refine a_one (i := 13) (by kernel_rfl) rfl ?_
 have hnd25 := need_bt (show (decide (((b.wa.length : Int) : Int) < c.qu)) = true from (decide_eq_true (by omega))) 14 wq23
 refine s_call0 H24 (wt0 rfl) (x_call' rfl rfl cl31) (hnd25) rfl rfl ?_
 intro wq26 H27
 have cm11 := H27.mask [true, false, false, false, false, false, false, false, true, false]
 refine a_k cm11 ?_
 refine a_done (by kernel_rfl) ?_
 refine g_then ?_
 refine g_weak [(1, .pointer (some ⟨g1, 0, none⟩)), (2, .pointer (some ⟨g6, 0, none⟩))] ⟨rfl, rfl, trivial⟩ ?_
 refine g_any [(1, .pointer (some ⟨g1, 0, none⟩)), (2, .pointer (some ⟨g6, 0, none⟩))] (fun wx => S wx [sgI sg c o A B a b, Ob g6 (.cells #[.int .i64 ((blk m).p), .int .i64 ((blk m).b), .int .i64 ((blk m).n)] 49 (0, 0)), ddI g1 sg o m]) [13] (by kernel_rfl) H27 (fun wq28 H29 => ?_)
 have cm12 := H29.mask [true, false, false, false, false, false, false, true, true, false]
 refine w_t 0 rfl cm12 (fun _ _ => xf 10) ?_
 refine w_t 1 rfl cm12 (fun _ H => xl H 2) ?_
 refine w_t 2 rfl cm12 (fun _ _ => xf 10) ?_
 refine w_t 3 rfl cm12 (fun _ H => xl H 2) ?_
 refine w_t 4 rfl cm12 (fun _ _ => xn) ?_
 refine w_t 5 rfl cm12 (fun _ _ => xf (offP o + 5)) ?_
 refine w_t 6 rfl cm12 (fun _ H => x_load1 H 0 rfl rfl Try.underlying37 rfl rfl (sgC_p rfl rfl rfl)) ?_
 refine w_t (v := .agg #[.int .i64 ((blk m).p), .int .i64 ((blk m).b), .int .i64 ((blk m).n)]) 8 rfl cm12 (fun _ H => x_loadA H 1 rfl rfl Try.underlying49 rfl sz49 rfl rfl rfl) ?_
 refine a_two (i := 7) (j := 9) (by kernel_rfl) rfl rfl ?_ ?_
 ·
  refine s_call (wt0 rfl) (x_call' rfl rfl cl22) (clone_c b.wa B.pw B.cw (by omega) _ (H29.rwReads (k := 5) rfl)) ?_
  rintro _ wq32 ⟨p30, c31, rfl, H33⟩
  replace H33 : S wq32 [Rw 49 3 p30 b.wa.length c31 (chV b.wa), sgI sg c o A B a b, alI A a, waI A a, goI A a, alI B b, waI B b, goI B b, Ob g6 (.cells #[.int .i64 ((blk m).p), .int .i64 ((blk m).b), .int .i64 ((blk m).n)] 49 (0, 0)), ddI g1 sg o m, olS w sg c o A B a b] := H29.absorb (new := [Rw 49 3 p30 b.wa.length c31 (chV b.wa)]) H33
  refine b_ret rfl rfl ?_
  have cm13 := H33.mask [false, true, false, false, false, false, false, false, true, true, false]
  refine a_k cm13 ?_
  refine a_one (i := 9) (by kernel_rfl) rfl ?_
  refine s_buildSlice H33 (wt0 rfl) rfl rfl rfl (vs := [.agg #[.int .i64 ((blk m).p), .int .i64 ((blk m).b), .int .i64 ((blk m).n)]]) rfl Try.underlying37 sz49 ze49 rfl rfl (cells := #[.int .i64 ((blk m).p), .int .i64 ((blk m).b), .int .i64 ((blk m).n)]) (by kernel_rfl) ?_
  intro g34 wq35 H36
  have cm14 := H36.mask [false, false, true, false, false, false, false, false, false, true, true, false]
  refine a_k cm14 ?_
  refine a_one (i := 10) (by kernel_rfl) rfl ?_
  refine s_appendR (n := b.wa.length) (m := 1) (sc := c31) (xs := (chV b.wa)) (news := [.int .i64 ((blk m).p), .int .i64 ((blk m).b), .int .i64 ((blk m).n)]) (p := p30) (ad := ⟨g34, 0, none⟩) H36 1 (wt0 rfl) rfl rfl rfl rfl rfl rfl Try.underlying37 inf49 rfl (by decide) (by decide) rfl (by decide) (news_ob H36 (j0 := 0) rfl) rfl (by omega) ?_
  intro p37 c38 wq39 (H40 : S wq39 [Ob g34 (.cells #[.int .i64 ((blk m).p), .int .i64 ((blk m).b), .int .i64 ((blk m).n)] 49 (0, 0)), Rw 49 3 p37 (b.wa.length + 1) c38 ((chV b.wa) ++ [.int .i64 ((blk m).p), .int .i64 ((blk m).b), .int .i64 ((blk m).n)]), sgI sg c o A B a b, alI A a, waI A a, goI A a, alI B b, waI B b, goI B b, Ob g6 (.cells #[.int .i64 ((blk m).p), .int .i64 ((blk m).b), .int .i64 ((blk m).n)] 49 (0, 0)), ddI g1 sg o m, olS w sg c o A B a b])
  have cm15 := H40.mask [false, false, true, false, false, false, false, false, false, true, true, false]
  refine a_k cm15 ?_
  refine a_one (i := 11) (by kernel_rfl) rfl ?_
  refine s_val (v := .pointer (some ⟨sg, offP o, none⟩)) (wt0 rfl) rfl rfl (x_nilCheck rfl rfl) ?_
  refine a_k cm15 ?_
  refine a_one (i := 12) (by kernel_rfl) rfl ?_
  refine s_val (v := .pointer (some ⟨sg, offP o + 5, none⟩)) (wt0 rfl) rfl rfl (x_fieldAddr rfl rfl fo54_5 rfl) ?_
  refine a_k cm15 ?_
  refine a_one (i := 13) (by kernel_rfl) rfl ?_
  refine s_store1 H40 2 (wt0 rfl) rfl rfl rfl rfl rfl sz37 rfl rfl (sgC_pl rfl rfl (by decide)) ?_
  intro wq41 H42
  rw [sgC_sp rfl rfl (by decide)] at H42
  replace H42 : S wq41 [Ob g34 (.cells #[.int .i64 ((blk m).p), .int .i64 ((blk m).b), .int .i64 ((blk m).n)] 49 (0, 0)), Rw 49 3 p37 (b.wa.length + 1) c38 ((chV b.wa) ++ [.int .i64 ((blk m).p), .int .i64 ((blk m).b), .int .i64 ((blk m).n)]), Ob sg (.cells (sgC o c [.bool a.bg, .bool a.ck, .bool a.wt, .string (a.fd), .slice A.pa a.al.length A.ca, .slice A.pw a.wa.length A.cw, .map (some A.mg)] [.bool b.bg, .bool b.ck, .bool b.wt, .string (b.fd), .slice B.pa b.al.length B.ca, .slice p37 (b.wa.length + 1) c38, .map (some B.mg)]) 57 (0, 0)), alI A a, waI A a, goI A a, alI B b, waI B b, goI B b, Ob g6 (.cells #[.int .i64 ((blk m).p), .int .i64 ((blk m).b), .int .i64 ((blk m).n)] 49 (0, 0)), ddI g1 sg o m, olS w sg c o A B a b] := H42
  refine a_kt rfl ?_
  refine a_done (by kernel_rfl) ?_
  refine fin_end [] [] rfl trivial ?_
  have hzl : (b.wa ++ [blk m]).length = b.wa.length + 1 := by simp
  exact ⟨{ B with pw := p37, cw := c38 }, rfl, by (try dsimp only [Wy.ask, sgI, waI]); rw [ask_cells, hzl]; exact H42.takes [2, 3, 4, 5, 6, 1, 8, 11] (by decide)⟩
 ·
  refine s_buildSlice H29 (wt0 rfl) rfl rfl rfl (vs := [.agg #[.int .i64 ((blk m).p), .int .i64 ((blk m).b), .int .i64 ((blk m).n)]]) rfl Try.underlying37 sz49 ze49 rfl rfl (cells := #[.int .i64 ((blk m).p), .int .i64 ((blk m).b), .int .i64 ((blk m).n)]) (by kernel_rfl) ?_
  intro g43 wq44 H45
  have cm16 := H45.mask [false, true, false, false, false, false, false, false, true, true, false]
  refine a_k cm16 ?_
  refine a_one (i := 7) (by kernel_rfl) rfl ?_
  refine s_call (wt0 rfl) (x_call' rfl rfl cl22) (clone_c b.wa B.pw B.cw (by omega) _ (H45.rwReads (k := 6) rfl)) ?_
  rintro _ wq48 ⟨p46, c47, rfl, H49⟩
  replace H49 : S wq48 [Rw 49 3 p46 b.wa.length c47 (chV b.wa), Ob g43 (.cells #[.int .i64 ((blk m).p), .int .i64 ((blk m).b), .int .i64 ((blk m).n)] 49 (0, 0)), sgI sg c o A B a b, alI A a, waI A a, goI A a, alI B b, waI B b, goI B b, Ob g6 (.cells #[.int .i64 ((blk m).p), .int .i64 ((blk m).b), .int .i64 ((blk m).n)] 49 (0, 0)), ddI g1 sg o m, olS w sg c o A B a b] := H45.absorb (new := [Rw 49 3 p46 b.wa.length c47 (chV b.wa)]) H49
  refine b_ret rfl rfl ?_
  have cm17 := H49.mask [false, false, true, false, false, false, false, false, false, true, true, false]
  refine a_k cm17 ?_
  refine a_one (i := 10) (by kernel_rfl) rfl ?_
  refine s_appendR (n := b.wa.length) (m := 1) (sc := c47) (xs := (chV b.wa)) (news := [.int .i64 ((blk m).p), .int .i64 ((blk m).b), .int .i64 ((blk m).n)]) (p := p46) (ad := ⟨g43, 0, none⟩) H49 0 (wt0 rfl) rfl rfl rfl rfl rfl rfl Try.underlying37 inf49 rfl (by decide) (by decide) rfl (by decide) (news_ob H49 (j0 := 1) rfl) rfl (by omega) ?_
  intro p50 c51 wq52 (H53 : S wq52 [Rw 49 3 p50 (b.wa.length + 1) c51 ((chV b.wa) ++ [.int .i64 ((blk m).p), .int .i64 ((blk m).b), .int .i64 ((blk m).n)]), Ob g43 (.cells #[.int .i64 ((blk m).p), .int .i64 ((blk m).b), .int .i64 ((blk m).n)] 49 (0, 0)), sgI sg c o A B a b, alI A a, waI A a, goI A a, alI B b, waI B b, goI B b, Ob g6 (.cells #[.int .i64 ((blk m).p), .int .i64 ((blk m).b), .int .i64 ((blk m).n)] 49 (0, 0)), ddI g1 sg o m, olS w sg c o A B a b])
  have cm18 := H53.mask [false, false, true, false, false, false, false, false, false, true, true, false]
  refine a_k cm18 ?_
  refine a_one (i := 11) (by kernel_rfl) rfl ?_
  refine s_val (v := .pointer (some ⟨sg, offP o, none⟩)) (wt0 rfl) rfl rfl (x_nilCheck rfl rfl) ?_
  refine a_k cm18 ?_
  refine a_one (i := 12) (by kernel_rfl) rfl ?_
  refine s_val (v := .pointer (some ⟨sg, offP o + 5, none⟩)) (wt0 rfl) rfl rfl (x_fieldAddr rfl rfl fo54_5 rfl) ?_
  refine a_k cm18 ?_
  refine a_one (i := 13) (by kernel_rfl) rfl ?_
  refine s_store1 H53 2 (wt0 rfl) rfl rfl rfl rfl rfl sz37 rfl rfl (sgC_pl rfl rfl (by decide)) ?_
  intro wq54 H55
  rw [sgC_sp rfl rfl (by decide)] at H55
  replace H55 : S wq54 [Rw 49 3 p50 (b.wa.length + 1) c51 ((chV b.wa) ++ [.int .i64 ((blk m).p), .int .i64 ((blk m).b), .int .i64 ((blk m).n)]), Ob g43 (.cells #[.int .i64 ((blk m).p), .int .i64 ((blk m).b), .int .i64 ((blk m).n)] 49 (0, 0)), Ob sg (.cells (sgC o c [.bool a.bg, .bool a.ck, .bool a.wt, .string (a.fd), .slice A.pa a.al.length A.ca, .slice A.pw a.wa.length A.cw, .map (some A.mg)] [.bool b.bg, .bool b.ck, .bool b.wt, .string (b.fd), .slice B.pa b.al.length B.ca, .slice p50 (b.wa.length + 1) c51, .map (some B.mg)]) 57 (0, 0)), alI A a, waI A a, goI A a, alI B b, waI B b, goI B b, Ob g6 (.cells #[.int .i64 ((blk m).p), .int .i64 ((blk m).b), .int .i64 ((blk m).n)] 49 (0, 0)), ddI g1 sg o m, olS w sg c o A B a b] := H55
  refine a_kt rfl ?_
  refine a_done (by kernel_rfl) ?_
  refine fin_end [] [] rfl trivial ?_
  have hzl : (b.wa ++ [blk m]).length = b.wa.length + 1 := by simp
  exact ⟨{ B with pw := p50, cw := c51 }, rfl, by (try dsimp only [Wy.ask, sgI, waI]); rw [ask_cells, hzl]; exact H55.takes [2, 3, 4, 5, 6, 0, 8, 11] (by decide)⟩
set_option maxRecDepth 20000 in
set_option maxHeartbeats 4000000 in
theorem requestDN_o (sg : Nat) (c : Co) (o : Bool) (A B : Ad) (a b : Wy) (m : M) (hn : 0 ≤ c.n ∧ c.n ≤ 4096) (hV : Vf c.n.toNat b.fd) (hwl : b.wa.length ≤ 1099511627776) (hq : hasB c.n.toNat b.fd m.i1 = true) (hf : c.ft = false) (hk : b.ck = false) (hc : chB b.wa (blk m) = true) (w : World) (HS : S w [sgI sg c o A B a b, alI A a, waI A a, goI A a, alI B b, waI B b, goI B b]) : Calls Try.prog 50 #[.agg #[.pointer (some ⟨sg, 0, none⟩), .int .i64 (m.kind), .int .i64 (m.i1), .int .i64 (m.i2), .int .i64 (m.i3), .int .i64 (m.i4), .int .i64 (m.i5), .string (m.root), .string (m.data), .pointer (some ⟨sg, offO o, none⟩), .pointer (some ⟨sg, offP o, none⟩)]] w fun e w' => e = .panicked [{ v := .iface 72 (.int .i64 6), recovered := false }] ∧ S w' ([sgI sg c o A B a b, alI A a, waI A a, goI A a, alI B b, waI B b, goI B b] ++ [olS w sg c o A B a b]) := by
 have H0 := HS.beginI
 refine enter 62 Try.func50 rfl rfl rfl ?_
 refine g_weak [(0, .agg #[.pointer (some ⟨sg, 0, none⟩), .int .i64 (m.kind), .int .i64 (m.i1), .int .i64 (m.i2), .int .i64 (m.i3), .int .i64 (m.i4), .int .i64 (m.i5), .string (m.root), .string (m.data), .pointer (some ⟨sg, offO o, none⟩), .pointer (some ⟨sg, offP o, none⟩)])] ⟨rfl, trivial⟩ ?_
 refine w_s ?_
 refine l_of (s_box H0 (wt0 rfl) rfl rfl rfl rfl ?_)
 intro g1 wq2 H3
 refine w_e ?_
 refine w_s ?_
 refine w_v (v := .agg #[.pointer (some ⟨sg, 0, none⟩), .int .i64 (m.kind), .int .i64 (m.i1), .int .i64 (m.i2), .int .i64 (m.i3), .int .i64 (m.i4), .int .i64 (m.i5), .string (m.root), .string (m.data), .pointer (some ⟨sg, offO o, none⟩), .pointer (some ⟨sg, offP o, none⟩)]) (x_loadA H3 0 rfl rfl Try.underlying75 rfl sz75 rfl rfl rfl) ?_
 refine l_of (s_call0 H3 (wt0 rfl) (x_call' rfl rfl cl51) (block_o sg o m _) rfl rfl ?_)
 intro wq4 H5
 refine l_of (s_alloc H5 (wt0 rfl) rfl rfl rfl ze49 ?_)
 intro g6 wq7 H8
 refine l_of (w_st #[.int .i64 ((blk m).p), .int .i64 ((blk m).b), .int .i64 ((blk m).n)] H8 0 ?_)
 intro wq9 H10
 refine w_e ?_
 refine w_s ?_
 refine w_v (v := .agg #[.pointer (some ⟨sg, 0, none⟩), .int .i64 (m.kind), .int .i64 (m.i1), .int .i64 (m.i2), .int .i64 (m.i3), .int .i64 (m.i4), .int .i64 (m.i5), .string (m.root), .string (m.data), .pointer (some ⟨sg, offO o, none⟩), .pointer (some ⟨sg, offP o, none⟩)]) (x_loadA H10 1 rfl rfl Try.underlying75 rfl sz75 rfl rfl rfl) ?_
 refine w_f 10 ?_
 refine w_1 H10 1 ?_
 refine w_f 0 ?_
 refine w_1 H10 0 ?_
 refine l_of (s_call (wt0 rfl) (x_call' rfl rfl cl52) (hasd_op sg c o A B a b m ((blk m).p) hn hV _ (H10.takes [2, 3, 4, 5, 6, 7, 8] (by decide))) ?_)
 rintro _ wq11 ⟨rfl, H12⟩
 replace H12 : S wq11 [sgI sg c o A B a b, alI A a, waI A a, goI A a, alI B b, waI B b, goI B b, Ob g6 (.cells #[.int .i64 ((blk m).p), .int .i64 ((blk m).b), .int .i64 ((blk m).n)] 49 (0, 0)), ddI g1 sg o m, olS w sg c o A B a b] := by have h := H10.absorbI [2, 3, 4, 5, 6, 7, 8] H12; exact h
 refine b_ret rfl rfl ?_
 have hnd13 := need_bt hq 9 wq11
 refine l_of (s_call0 H12 (wt0 rfl) (x_call' rfl rfl cl31) (hnd13) rfl rfl ?_)
 intro wq14 H15
 refine w_e ?_
 refine g_seq ?_
 refine w_s ?_
 refine w_f 0 ?_
 refine w_1 H15 8 ?_
 refine w_r3 ?_
 refine w_v (x_load1 H15 0 rfl rfl Try.underlying4 rfl rfl (sgC_c rfl)) ?_
 refine w_v (v := .bool (!(c.ft))) (x_not (b := c.ft) rfl rfl) ?_
 refine w_m ?_
 refine w_g (neg_of hf) (xf 10) ?_
 refine w_g (neg_of hf) (xl H15 8) ?_
 refine w_g (neg_of hf) xn ?_
 refine w_g (neg_of hf) (xf (offP o + 1)) ?_
 refine w_g (neg_of hf) (x_load1 H15 0 rfl rfl Try.underlying4 rfl rfl (sgC_p rfl rfl rfl)) ?_
 refine w_v (v := .bool b.ck) (x_pick_t rfl rfl (neg_of hf) rfl) ?_
 refine w_e ?_
 refine g_weak [(1, .pointer (some ⟨g1, 0, none⟩)), (2, .pointer (some ⟨g6, 0, none⟩)), (25, .bool b.ck)] ⟨rfl, rfl, rfl, trivial⟩ ?_
 refine g_cond_f rfl hk ?_
 refine g_skip ?_
 refine g_then ?_
 refine g_seq ?_
 refine g_any [(1, .pointer (some ⟨g1, 0, none⟩)), (2, .pointer (some ⟨g6, 0, none⟩)), (25, .bool b.ck)] (fun wx => S wx [sgI sg c o A B a b, Ob g6 (.cells #[.int .i64 ((blk m).p), .int .i64 ((blk m).b), .int .i64 ((blk m).n)] 49 (0, 0)), ddI g1 sg o m]) [] (by kernel_rfl) H15 (fun wq16 H17 => ?_)
 have cm19 := H17.mask [true, false, false, false, false, false, false, true, true, false]
 refine w_t 0 rfl cm19 (fun _ _ => xf 10) ?_
 refine w_t 1 rfl cm19 (fun _ H => xl H 2) ?_
 refine w_t 2 rfl cm19 (fun _ _ => xn) ?_
 refine w_t 3 rfl cm19 (fun _ _ => xf (offP o + 5)) ?_
 refine w_t 4 rfl cm19 (fun _ H => x_load1 H 0 rfl rfl Try.underlying37 rfl rfl (sgC_p rfl rfl rfl)) ?_
 refine w_t (v := .agg #[.int .i64 ((blk m).p), .int .i64 ((blk m).b), .int .i64 ((blk m).n)]) 5 rfl cm19 (fun _ H => x_loadA H 1 rfl rfl Try.underlying49 rfl sz49 rfl rfl rfl) ?_
 refine a_one (i := 6) (by kernel_rfl) rfl ?_
 refine s_call0 H17 (wt0 rfl) (x_call' rfl rfl cl53) (contains_c b.wa B.pw B.cw (blk m) (by omega) _ (H17.rwReads (k := 5) rfl)) rfl rfl ?_
 intro wq18 H19
 have cm20 := H19.mask [true, false, false, false, false, false, false, true, true, false]
 refine a_k cm20 ?_
 refine w_t (v := .bool (!((chB b.wa (blk m))))) 7 rfl cm20 (fun _ _ => x_not (b := (chB b.wa (blk m))) rfl rfl) ?_
 refine a_one (i := 8) (by kernel_rfl) rfl ?_
 have hnd20 := need_bf (show (!((chB b.wa (blk m)))) = false by rw [hc]; rfl) 6 wq18
 refine s_call (wt0 rfl) (x_call' rfl rfl cl31) (hnd20) ?_
 rintro _ wq21 ⟨rfl, H22⟩
 replace H22 : S wq21 [sgI sg c o A B a b, alI A a, waI A a, goI A a, alI B b, waI B b, goI B b, Ob g6 (.cells #[.int .i64 ((blk m).p), .int .i64 ((blk m).b), .int .i64 ((blk m).n)] 49 (0, 0)), ddI g1 sg o m, olS w sg c o A B a b] := H19.absorb (new := []) H22
 refine b_panic ?_
 refine pan_in ⟨rfl, rfl, rfl, trivial⟩ ?_
 refine g_then_panic ?_
 refine fin_panic ?_
 exact ⟨rfl, H22.takes [0, 1, 2, 3, 4, 5, 6, 9] (by decide)⟩
set_option maxRecDepth 20000 in
set_option maxHeartbeats 4000000 in
theorem requestFN_o (sg : Nat) (c : Co) (o : Bool) (A B : Ad) (a b : Wy) (m : M) (hn : 0 ≤ c.n ∧ c.n ≤ 4096) (hV : Vf c.n.toNat b.fd) (hwl : b.wa.length ≤ 1099511627776) (hq : hasB c.n.toNat b.fd m.i1 = true) (hf : c.ft = false) (hk : b.ck = false) (hc : chB b.wa (blk m) = false) (hl : c.qu ≤ (b.wa.length : Int)) (w : World) (HS : S w [sgI sg c o A B a b, alI A a, waI A a, goI A a, alI B b, waI B b, goI B b]) : Calls Try.prog 50 #[.agg #[.pointer (some ⟨sg, 0, none⟩), .int .i64 (m.kind), .int .i64 (m.i1), .int .i64 (m.i2), .int .i64 (m.i3), .int .i64 (m.i4), .int .i64 (m.i5), .string (m.root), .string (m.data), .pointer (some ⟨sg, offO o, none⟩), .pointer (some ⟨sg, offP o, none⟩)]] w fun e w' => e = .panicked [{ v := .iface 72 (.int .i64 14), recovered := false }] ∧ S w' ([sgI sg c o A B a b, alI A a, waI A a, goI A a, alI B b, waI B b, goI B b] ++ [olS w sg c o A B a b]) := by
 have H0 := HS.beginI
 refine enter 62 Try.func50 rfl rfl rfl ?_
 refine g_weak [(0, .agg #[.pointer (some ⟨sg, 0, none⟩), .int .i64 (m.kind), .int .i64 (m.i1), .int .i64 (m.i2), .int .i64 (m.i3), .int .i64 (m.i4), .int .i64 (m.i5), .string (m.root), .string (m.data), .pointer (some ⟨sg, offO o, none⟩), .pointer (some ⟨sg, offP o, none⟩)])] ⟨rfl, trivial⟩ ?_
 refine w_s ?_
 refine l_of (s_box H0 (wt0 rfl) rfl rfl rfl rfl ?_)
 intro g1 wq2 H3
 refine w_e ?_
 refine w_s ?_
 refine w_v (v := .agg #[.pointer (some ⟨sg, 0, none⟩), .int .i64 (m.kind), .int .i64 (m.i1), .int .i64 (m.i2), .int .i64 (m.i3), .int .i64 (m.i4), .int .i64 (m.i5), .string (m.root), .string (m.data), .pointer (some ⟨sg, offO o, none⟩), .pointer (some ⟨sg, offP o, none⟩)]) (x_loadA H3 0 rfl rfl Try.underlying75 rfl sz75 rfl rfl rfl) ?_
 refine l_of (s_call0 H3 (wt0 rfl) (x_call' rfl rfl cl51) (block_o sg o m _) rfl rfl ?_)
 intro wq4 H5
 refine l_of (s_alloc H5 (wt0 rfl) rfl rfl rfl ze49 ?_)
 intro g6 wq7 H8
 refine l_of (w_st #[.int .i64 ((blk m).p), .int .i64 ((blk m).b), .int .i64 ((blk m).n)] H8 0 ?_)
 intro wq9 H10
 refine w_e ?_
 refine w_s ?_
 refine w_v (v := .agg #[.pointer (some ⟨sg, 0, none⟩), .int .i64 (m.kind), .int .i64 (m.i1), .int .i64 (m.i2), .int .i64 (m.i3), .int .i64 (m.i4), .int .i64 (m.i5), .string (m.root), .string (m.data), .pointer (some ⟨sg, offO o, none⟩), .pointer (some ⟨sg, offP o, none⟩)]) (x_loadA H10 1 rfl rfl Try.underlying75 rfl sz75 rfl rfl rfl) ?_
 refine w_f 10 ?_
 refine w_1 H10 1 ?_
 refine w_f 0 ?_
 refine w_1 H10 0 ?_
 refine l_of (s_call (wt0 rfl) (x_call' rfl rfl cl52) (hasd_op sg c o A B a b m ((blk m).p) hn hV _ (H10.takes [2, 3, 4, 5, 6, 7, 8] (by decide))) ?_)
 rintro _ wq11 ⟨rfl, H12⟩
 replace H12 : S wq11 [sgI sg c o A B a b, alI A a, waI A a, goI A a, alI B b, waI B b, goI B b, Ob g6 (.cells #[.int .i64 ((blk m).p), .int .i64 ((blk m).b), .int .i64 ((blk m).n)] 49 (0, 0)), ddI g1 sg o m, olS w sg c o A B a b] := by have h := H10.absorbI [2, 3, 4, 5, 6, 7, 8] H12; exact h
 refine b_ret rfl rfl ?_
 have hnd13 := need_bt hq 9 wq11
 refine l_of (s_call0 H12 (wt0 rfl) (x_call' rfl rfl cl31) (hnd13) rfl rfl ?_)
 intro wq14 H15
 refine w_e ?_
 refine g_seq ?_
 refine w_s ?_
 refine w_f 0 ?_
 refine w_1 H15 8 ?_
 refine w_r3 ?_
 refine w_v (x_load1 H15 0 rfl rfl Try.underlying4 rfl rfl (sgC_c rfl)) ?_
 refine w_v (v := .bool (!(c.ft))) (x_not (b := c.ft) rfl rfl) ?_
 refine w_m ?_
 refine w_g (neg_of hf) (xf 10) ?_
 refine w_g (neg_of hf) (xl H15 8) ?_
 refine w_g (neg_of hf) xn ?_
 refine w_g (neg_of hf) (xf (offP o + 1)) ?_
 refine w_g (neg_of hf) (x_load1 H15 0 rfl rfl Try.underlying4 rfl rfl (sgC_p rfl rfl rfl)) ?_
 refine w_v (v := .bool b.ck) (x_pick_t rfl rfl (neg_of hf) rfl) ?_
 refine w_e ?_
 refine g_weak [(1, .pointer (some ⟨g1, 0, none⟩)), (2, .pointer (some ⟨g6, 0, none⟩)), (25, .bool b.ck)] ⟨rfl, rfl, rfl, trivial⟩ ?_
 refine g_cond_f rfl hk ?_
 refine g_skip ?_
 refine g_then ?_
 refine g_seq ?_
 refine g_any [(1, .pointer (some ⟨g1, 0, none⟩)), (2, .pointer (some ⟨g6, 0, none⟩)), (25, .bool b.ck)] (fun wx => S wx [sgI sg c o A B a b, Ob g6 (.cells #[.int .i64 ((blk m).p), .int .i64 ((blk m).b), .int .i64 ((blk m).n)] 49 (0, 0)), ddI g1 sg o m]) [] (by kernel_rfl) H15 (fun wq16 H17 => ?_)
 have cm21 := H17.mask [true, false, false, false, false, false, false, true, true, false]
 refine w_t 0 rfl cm21 (fun _ _ => xf 10) ?_
 refine w_t 1 rfl cm21 (fun _ H => xl H 2) ?_
 refine w_t 2 rfl cm21 (fun _ _ => xn) ?_
 refine w_t 3 rfl cm21 (fun _ _ => xf (offP o + 5)) ?_
 refine w_t 4 rfl cm21 (fun _ H => x_load1 H 0 rfl rfl Try.underlying37 rfl rfl (sgC_p rfl rfl rfl)) ?_
 refine w_t (v := .agg #[.int .i64 ((blk m).p), .int .i64 ((blk m).b), .int .i64 ((blk m).n)]) 5 rfl cm21 (fun _ H => x_loadA H 1 rfl rfl Try.underlying49 rfl sz49 rfl rfl rfl) ?_
 refine a_one (i := 6) (by kernel_rfl) rfl ?_
 refine s_call0 H17 (wt0 rfl) (x_call' rfl rfl cl53) (contains_c b.wa B.pw B.cw (blk m) (by omega) _ (H17.rwReads (k := 5) rfl)) rfl rfl ?_
 intro wq18 H19
 have cm22 := H19.mask [true, false, false, false, false, false, false, true, true, false]
 refine a_k cm22 ?_
 refine w_t (v := .bool (!((chB b.wa (blk m))))) 7 rfl cm22 (fun _ _ => x_not (b := (chB b.wa (blk m))) rfl rfl) ?_
 refine a_one (i := 8) (by kernel_rfl) rfl ?_
 have hnd20 := need_bt (show (!((chB b.wa (blk m)))) = true by rw [hc]; rfl) 6 wq18
 refine s_call0 H19 (wt0 rfl) (x_call' rfl rfl cl31) (hnd20) rfl rfl ?_
 intro wq21 H22
 have cm23 := H22.mask [true, false, false, false, false, false, false, true, true, false]
 refine a_k cm23 ?_
 refine a_done (by kernel_rfl) ?_
 refine g_then ?_
 refine g_seq ?_
 refine g_any [(1, .pointer (some ⟨g1, 0, none⟩)), (2, .pointer (some ⟨g6, 0, none⟩)), (25, .bool b.ck), (26, .pointer (some ⟨g1, 10, none⟩)), (27, .pointer (some ⟨sg, offP o, none⟩)), (28, .pointer (some ⟨sg, offP o, none⟩)), (29, .pointer (some ⟨sg, offP o + 5, none⟩)), (30, .slice B.pw b.wa.length B.cw), (31, .agg #[.int .i64 ((blk m).p), .int .i64 ((blk m).b), .int .i64 ((blk m).n)]), (32, .bool ((chB b.wa (blk m)))), (33, .bool (!((chB b.wa (blk m))))), (34, .tuple #[])] (fun wx => S wx [sgI sg c o A B a b, ddI g1 sg o m]) [] (by kernel_rfl) H22 (fun wq23 H24 => ?_)
 have cm24 := H24.mask [true, false, false, false, false, false, false, false, true, false]
 refine w_t 0 rfl cm24 (fun _ _ => xf 10) ?_
 refine w_t 1 rfl cm24 (fun _ H => xl H 1) ?_
 refine w_t 2 rfl cm24 (fun _ _ => xn) ?_
 refine w_t 3 rfl cm24 (fun _ _ => xf (offP o + 5)) ?_
 refine w_t 4 rfl cm24 (fun _ H => x_load1 H 0 rfl rfl Try.underlying37 rfl rfl (sgC_p rfl rfl rfl)) ?_
 refine w_t (v := .int .i64 ((b.wa.length : Int))) 5 rfl cm24 (fun _ _ => x_lenl rfl rfl Try.underlying37) ?_
 refine w_t 6 rfl cm24 (fun _ _ => xf 0) ?_
 refine w_t 7 rfl cm24 (fun _ H => xl H 1) ?_
 refine w_t 8 rfl cm24 (fun _ _ => xn) ?_
 refine w_t 9 rfl cm24 (fun _ _ => xf 0) ?_
 refine w_t 10 rfl cm24 (fun _ _ => xf 3) ?_
 refine w_t 11 rfl cm24 (fun _ H => x_load1 H 0 rfl rfl Try.underlying3 rfl rfl (sgC_c rfl)) ?_
 refine w_t 12 rfl cm24 (fun _ _ => x_bin rfl rfl rfl b_lss) ?_
 refine a_one (i := 13) (by kernel_rfl) rfl ?_
 have hnd25 := need_bf (show (decide (((b.wa.length : Int) : Int) < c.qu)) = false from (decide_eq_false (by omega))) 14 wq23
 refine s_call (wt0 rfl) (x_call' rfl rfl cl31) (hnd25) ?_
 rintro _ wq26 ⟨rfl, H27⟩
 replace H27 : S wq26 [sgI sg c o A B a b, alI A a, waI A a, goI A a, alI B b, waI B b, goI B b, Ob g6 (.cells #[.int .i64 ((blk m).p), .int .i64 ((blk m).b), .int .i64 ((blk m).n)] 49 (0, 0)), ddI g1 sg o m, olS w sg c o A B a b] := H24.absorb (new := []) H27
 refine b_panic ?_
 refine pan_in ⟨rfl, rfl, rfl, rfl, rfl, rfl, rfl, rfl, rfl, rfl, rfl, rfl, trivial⟩ ?_
 refine g_then_panic ?_
 refine fin_panic ?_
 exact ⟨rfl, H27.takes [0, 1, 2, 3, 4, 5, 6, 9] (by decide)⟩
set_option maxRecDepth 20000 in
set_option maxHeartbeats 4000000 in
theorem requestAN_o (sg : Nat) (c : Co) (o : Bool) (A B : Ad) (a b : Wy) (m : M) (hn : 0 ≤ c.n ∧ c.n ≤ 4096) (hV : Vf c.n.toNat b.fd) (hwl : b.wa.length ≤ 1099511627776) (hq : hasB c.n.toNat b.fd m.i1 = true) (hf : c.ft = false) (hk : b.ck = false) (hc : chB b.wa (blk m) = false) (hl : (b.wa.length : Int) < c.qu) (w : World) (HS : S w [sgI sg c o A B a b, alI A a, waI A a, goI A a, alI B b, waI B b, goI B b]) : Calls Try.prog 50 #[.agg #[.pointer (some ⟨sg, 0, none⟩), .int .i64 (m.kind), .int .i64 (m.i1), .int .i64 (m.i2), .int .i64 (m.i3), .int .i64 (m.i4), .int .i64 (m.i5), .string (m.root), .string (m.data), .pointer (some ⟨sg, offO o, none⟩), .pointer (some ⟨sg, offP o, none⟩)]] w fun e w' => ∃ A' : Ad, e = .returned (.tuple #[]) ∧ S w' ([sgI sg c o A A' a (b.ask (blk m)), alI A a, waI A a, goI A a, alI A' (b.ask (blk m)), waI A' (b.ask (blk m)), goI A' (b.ask (blk m))] ++ [olS w sg c o A B a b]) := by
 have H0 := HS.beginI
 refine enter 62 Try.func50 rfl rfl rfl ?_
 refine g_weak [(0, .agg #[.pointer (some ⟨sg, 0, none⟩), .int .i64 (m.kind), .int .i64 (m.i1), .int .i64 (m.i2), .int .i64 (m.i3), .int .i64 (m.i4), .int .i64 (m.i5), .string (m.root), .string (m.data), .pointer (some ⟨sg, offO o, none⟩), .pointer (some ⟨sg, offP o, none⟩)])] ⟨rfl, trivial⟩ ?_
 refine w_s ?_
 refine l_of (s_box H0 (wt0 rfl) rfl rfl rfl rfl ?_)
 intro g1 wq2 H3
 refine w_e ?_
 refine w_s ?_
 refine w_v (v := .agg #[.pointer (some ⟨sg, 0, none⟩), .int .i64 (m.kind), .int .i64 (m.i1), .int .i64 (m.i2), .int .i64 (m.i3), .int .i64 (m.i4), .int .i64 (m.i5), .string (m.root), .string (m.data), .pointer (some ⟨sg, offO o, none⟩), .pointer (some ⟨sg, offP o, none⟩)]) (x_loadA H3 0 rfl rfl Try.underlying75 rfl sz75 rfl rfl rfl) ?_
 refine l_of (s_call0 H3 (wt0 rfl) (x_call' rfl rfl cl51) (block_o sg o m _) rfl rfl ?_)
 intro wq4 H5
 refine l_of (s_alloc H5 (wt0 rfl) rfl rfl rfl ze49 ?_)
 intro g6 wq7 H8
 refine l_of (w_st #[.int .i64 ((blk m).p), .int .i64 ((blk m).b), .int .i64 ((blk m).n)] H8 0 ?_)
 intro wq9 H10
 refine w_e ?_
 refine w_s ?_
 refine w_v (v := .agg #[.pointer (some ⟨sg, 0, none⟩), .int .i64 (m.kind), .int .i64 (m.i1), .int .i64 (m.i2), .int .i64 (m.i3), .int .i64 (m.i4), .int .i64 (m.i5), .string (m.root), .string (m.data), .pointer (some ⟨sg, offO o, none⟩), .pointer (some ⟨sg, offP o, none⟩)]) (x_loadA H10 1 rfl rfl Try.underlying75 rfl sz75 rfl rfl rfl) ?_
 refine w_f 10 ?_
 refine w_1 H10 1 ?_
 refine w_f 0 ?_
 refine w_1 H10 0 ?_
 refine l_of (s_call (wt0 rfl) (x_call' rfl rfl cl52) (hasd_op sg c o A B a b m ((blk m).p) hn hV _ (H10.takes [2, 3, 4, 5, 6, 7, 8] (by decide))) ?_)
 rintro _ wq11 ⟨rfl, H12⟩
 replace H12 : S wq11 [sgI sg c o A B a b, alI A a, waI A a, goI A a, alI B b, waI B b, goI B b, Ob g6 (.cells #[.int .i64 ((blk m).p), .int .i64 ((blk m).b), .int .i64 ((blk m).n)] 49 (0, 0)), ddI g1 sg o m, olS w sg c o A B a b] := by have h := H10.absorbI [2, 3, 4, 5, 6, 7, 8] H12; exact h
 refine b_ret rfl rfl ?_
 have hnd13 := need_bt hq 9 wq11
 refine l_of (s_call0 H12 (wt0 rfl) (x_call' rfl rfl cl31) (hnd13) rfl rfl ?_)
 intro wq14 H15
 refine w_e ?_
 refine g_seq ?_
 refine w_s ?_
 refine w_f 0 ?_
 refine w_1 H15 8 ?_
 refine w_r3 ?_
 refine w_v (x_load1 H15 0 rfl rfl Try.underlying4 rfl rfl (sgC_c rfl)) ?_
 refine w_v (v := .bool (!(c.ft))) (x_not (b := c.ft) rfl rfl) ?_
 refine w_m ?_
 refine w_g (neg_of hf) (xf 10) ?_
 refine w_g (neg_of hf) (xl H15 8) ?_
 refine w_g (neg_of hf) xn ?_
 refine w_g (neg_of hf) (xf (offP o + 1)) ?_
 refine w_g (neg_of hf) (x_load1 H15 0 rfl rfl Try.underlying4 rfl rfl (sgC_p rfl rfl rfl)) ?_
 refine w_v (v := .bool b.ck) (x_pick_t rfl rfl (neg_of hf) rfl) ?_
 refine w_e ?_
 refine g_weak [(1, .pointer (some ⟨g1, 0, none⟩)), (2, .pointer (some ⟨g6, 0, none⟩)), (25, .bool b.ck)] ⟨rfl, rfl, rfl, trivial⟩ ?_
 refine g_cond_f rfl hk ?_
 refine g_skip ?_
 refine g_then ?_
 refine g_seq ?_
 refine g_any [(1, .pointer (some ⟨g1, 0, none⟩)), (2, .pointer (some ⟨g6, 0, none⟩)), (25, .bool b.ck)] (fun wx => S wx [sgI sg c o A B a b, Ob g6 (.cells #[.int .i64 ((blk m).p), .int .i64 ((blk m).b), .int .i64 ((blk m).n)] 49 (0, 0)), ddI g1 sg o m]) [] (by kernel_rfl) H15 (fun wq16 H17 => ?_)
 have cm25 := H17.mask [true, false, false, false, false, false, false, true, true, false]
 refine w_t 0 rfl cm25 (fun _ _ => xf 10) ?_
 refine w_t 1 rfl cm25 (fun _ H => xl H 2) ?_
 refine w_t 2 rfl cm25 (fun _ _ => xn) ?_
 refine w_t 3 rfl cm25 (fun _ _ => xf (offP o + 5)) ?_
 refine w_t 4 rfl cm25 (fun _ H => x_load1 H 0 rfl rfl Try.underlying37 rfl rfl (sgC_p rfl rfl rfl)) ?_
 refine w_t (v := .agg #[.int .i64 ((blk m).p), .int .i64 ((blk m).b), .int .i64 ((blk m).n)]) 5 rfl cm25 (fun _ H => x_loadA H 1 rfl rfl Try.underlying49 rfl sz49 rfl rfl rfl) ?_
 refine a_one (i := 6) (by kernel_rfl) rfl ?_
 refine s_call0 H17 (wt0 rfl) (x_call' rfl rfl cl53) (contains_c b.wa B.pw B.cw (blk m) (by omega) _ (H17.rwReads (k := 5) rfl)) rfl rfl ?_
 intro wq18 H19
 have cm26 := H19.mask [true, false, false, false, false, false, false, true, true, false]
 refine a_k cm26 ?_
 refine w_t (v := .bool (!((chB b.wa (blk m))))) 7 rfl cm26 (fun _ _ => x_not (b := (chB b.wa (blk m))) rfl rfl) ?_
 refine a_one (i := 8) (by kernel_rfl) rfl ?_
 have hnd20 := need_bt (show (!((chB b.wa (blk m)))) = true by rw [hc]; rfl) 6 wq18
 refine s_call0 H19 (wt0 rfl) (x_call' rfl rfl cl31) (hnd20) rfl rfl ?_
 intro wq21 H22
 have cm27 := H22.mask [true, false, false, false, false, false, false, true, true, false]
 refine a_k cm27 ?_
 refine a_done (by kernel_rfl) ?_
 refine g_then ?_
 refine g_seq ?_
 refine g_any [(1, .pointer (some ⟨g1, 0, none⟩)), (2, .pointer (some ⟨g6, 0, none⟩)), (25, .bool b.ck), (26, .pointer (some ⟨g1, 10, none⟩)), (27, .pointer (some ⟨sg, offP o, none⟩)), (28, .pointer (some ⟨sg, offP o, none⟩)), (29, .pointer (some ⟨sg, offP o + 5, none⟩)), (30, .slice B.pw b.wa.length B.cw), (31, .agg #[.int .i64 ((blk m).p), .int .i64 ((blk m).b), .int .i64 ((blk m).n)]), (32, .bool ((chB b.wa (blk m)))), (33, .bool (!((chB b.wa (blk m))))), (34, .tuple #[])] (fun wx => S wx [sgI sg c o A B a b, ddI g1 sg o m]) [] (by kernel_rfl) H22 (fun wq23 H24 => ?_)
 have cm28 := H24.mask [true, false, false, false, false, false, false, false, true, false]
 refine w_t 0 rfl cm28 (fun _ _ => xf 10) ?_
 refine w_t 1 rfl cm28 (fun _ H => xl H 1) ?_
 refine w_t 2 rfl cm28 (fun _ _ => xn) ?_
 refine w_t 3 rfl cm28 (fun _ _ => xf (offP o + 5)) ?_
 refine w_t 4 rfl cm28 (fun _ H => x_load1 H 0 rfl rfl Try.underlying37 rfl rfl (sgC_p rfl rfl rfl)) ?_
 refine w_t (v := .int .i64 ((b.wa.length : Int))) 5 rfl cm28 (fun _ _ => x_lenl rfl rfl Try.underlying37) ?_
 refine w_t 6 rfl cm28 (fun _ _ => xf 0) ?_
 refine w_t 7 rfl cm28 (fun _ H => xl H 1) ?_
 refine w_t 8 rfl cm28 (fun _ _ => xn) ?_
 refine w_t 9 rfl cm28 (fun _ _ => xf 0) ?_
 refine w_t 10 rfl cm28 (fun _ _ => xf 3) ?_
 refine w_t 11 rfl cm28 (fun _ H => x_load1 H 0 rfl rfl Try.underlying3 rfl rfl (sgC_c rfl)) ?_
 refine w_t 12 rfl cm28 (fun _ _ => x_bin rfl rfl rfl b_lss) ?_
 refine a_one (i := 13) (by kernel_rfl) rfl ?_
 have hnd25 := need_bt (show (decide (((b.wa.length : Int) : Int) < c.qu)) = true from (decide_eq_true (by omega))) 14 wq23
 refine s_call0 H24 (wt0 rfl) (x_call' rfl rfl cl31) (hnd25) rfl rfl ?_
 intro wq26 H27
 have cm29 := H27.mask [true, false, false, false, false, false, false, false, true, false]
 refine a_k cm29 ?_
 refine a_done (by kernel_rfl) ?_
 refine g_then ?_
 refine g_weak [(1, .pointer (some ⟨g1, 0, none⟩)), (2, .pointer (some ⟨g6, 0, none⟩))] ⟨rfl, rfl, trivial⟩ ?_
 refine g_any [(1, .pointer (some ⟨g1, 0, none⟩)), (2, .pointer (some ⟨g6, 0, none⟩))] (fun wx => S wx [sgI sg c o A B a b, Ob g6 (.cells #[.int .i64 ((blk m).p), .int .i64 ((blk m).b), .int .i64 ((blk m).n)] 49 (0, 0)), ddI g1 sg o m]) [13] (by kernel_rfl) H27 (fun wq28 H29 => ?_)
 have cm30 := H29.mask [true, false, false, false, false, false, false, true, true, false]
 refine w_t 0 rfl cm30 (fun _ _ => xf 10) ?_
 refine w_t 1 rfl cm30 (fun _ H => xl H 2) ?_
 refine w_t 2 rfl cm30 (fun _ _ => xf 10) ?_
 refine w_t 3 rfl cm30 (fun _ H => xl H 2) ?_
 refine w_t 4 rfl cm30 (fun _ _ => xn) ?_
 refine w_t 5 rfl cm30 (fun _ _ => xf (offP o + 5)) ?_
 refine w_t 6 rfl cm30 (fun _ H => x_load1 H 0 rfl rfl Try.underlying37 rfl rfl (sgC_p rfl rfl rfl)) ?_
 refine w_t (v := .agg #[.int .i64 ((blk m).p), .int .i64 ((blk m).b), .int .i64 ((blk m).n)]) 8 rfl cm30 (fun _ H => x_loadA H 1 rfl rfl Try.underlying49 rfl sz49 rfl rfl rfl) ?_
 refine a_two (i := 7) (j := 9) (by kernel_rfl) rfl rfl ?_ ?_
 ·
  refine s_call (wt0 rfl) (x_call' rfl rfl cl22) (clone_c b.wa B.pw B.cw (by omega) _ (H29.rwReads (k := 5) rfl)) ?_
  rintro _ wq32 ⟨p30, c31, rfl, H33⟩
  replace H33 : S wq32 [Rw 49 3 p30 b.wa.length c31 (chV b.wa), sgI sg c o A B a b, alI A a, waI A a, goI A a, alI B b, waI B b, goI B b, Ob g6 (.cells #[.int .i64 ((blk m).p), .int .i64 ((blk m).b), .int .i64 ((blk m).n)] 49 (0, 0)), ddI g1 sg o m, olS w sg c o A B a b] := H29.absorb (new := [Rw 49 3 p30 b.wa.length c31 (chV b.wa)]) H33
  refine b_ret rfl rfl ?_
  have cm31 := H33.mask [false, true, false, false, false, false, false, false, true, true, false]
  refine a_k cm31 ?_
  refine a_one (i := 9) (by kernel_rfl) rfl ?_
  refine s_buildSlice H33 (wt0 rfl) rfl rfl rfl (vs := [.agg #[.int .i64 ((blk m).p), .int .i64 ((blk m).b), .int .i64 ((blk m).n)]]) rfl Try.underlying37 sz49 ze49 rfl rfl (cells := #[.int .i64 ((blk m).p), .int .i64 ((blk m).b), .int .i64 ((blk m).n)]) (by kernel_rfl) ?_
  intro g34 wq35 H36
  have cm32 := H36.mask [false, false, true, false, false, false, false, false, false, true, true, false]
  refine a_k cm32 ?_
  refine a_one (i := 10) (by kernel_rfl) rfl ?_
  refine s_appendR (n := b.wa.length) (m := 1) (sc := c31) (xs := (chV b.wa)) (news := [.int .i64 ((blk m).p), .int .i64 ((blk m).b), .int .i64 ((blk m).n)]) (p := p30) (ad := ⟨g34, 0, none⟩) H36 1 (wt0 rfl) rfl rfl rfl rfl rfl rfl Try.underlying37 inf49 rfl (by decide) (by decide) rfl (by decide) (news_ob H36 (j0 := 0) rfl) rfl (by omega) ?_
  intro p37 c38 wq39 (H40 : S wq39 [Ob g34 (.cells #[.int .i64 ((blk m).p), .int .i64 ((blk m).b), .int .i64 ((blk m).n)] 49 (0, 0)), Rw 49 3 p37 (b.wa.length + 1) c38 ((chV b.wa) ++ [.int .i64 ((blk m).p), .int .i64 ((blk m).b), .int .i64 ((blk m).n)]), sgI sg c o A B a b, alI A a, waI A a, goI A a, alI B b, waI B b, goI B b, Ob g6 (.cells #[.int .i64 ((blk m).p), .int .i64 ((blk m).b), .int .i64 ((blk m).n)] 49 (0, 0)), ddI g1 sg o m, olS w sg c o A B a b])
  have cm33 := H40.mask [false, false, true, false, false, false, false, false, false, true, true, false]
  refine a_k cm33 ?_
  refine a_one (i := 11) (by kernel_rfl) rfl ?_
  refine s_val (v := .pointer (some ⟨sg, offP o, none⟩)) (wt0 rfl) rfl rfl (x_nilCheck rfl rfl) ?_
  refine a_k cm33 ?_
  refine a_one (i := 12) (by kernel_rfl) rfl ?_
  refine s_val (v := .pointer (some ⟨sg, offP o + 5, none⟩)) (wt0 rfl) rfl rfl (x_fieldAddr rfl rfl fo54_5 rfl) ?_
  refine a_k cm33 ?_
  refine a_one (i := 13) (by kernel_rfl) rfl ?_
  refine s_store1 H40 2 (wt0 rfl) rfl rfl rfl rfl rfl sz37 rfl rfl (sgC_pl rfl rfl (by decide)) ?_
  intro wq41 H42
  rw [sgC_sp rfl rfl (by decide)] at H42
  replace H42 : S wq41 [Ob g34 (.cells #[.int .i64 ((blk m).p), .int .i64 ((blk m).b), .int .i64 ((blk m).n)] 49 (0, 0)), Rw 49 3 p37 (b.wa.length + 1) c38 ((chV b.wa) ++ [.int .i64 ((blk m).p), .int .i64 ((blk m).b), .int .i64 ((blk m).n)]), Ob sg (.cells (sgC o c [.bool a.bg, .bool a.ck, .bool a.wt, .string (a.fd), .slice A.pa a.al.length A.ca, .slice A.pw a.wa.length A.cw, .map (some A.mg)] [.bool b.bg, .bool b.ck, .bool b.wt, .string (b.fd), .slice B.pa b.al.length B.ca, .slice p37 (b.wa.length + 1) c38, .map (some B.mg)]) 57 (0, 0)), alI A a, waI A a, goI A a, alI B b, waI B b, goI B b, Ob g6 (.cells #[.int .i64 ((blk m).p), .int .i64 ((blk m).b), .int .i64 ((blk m).n)] 49 (0, 0)), ddI g1 sg o m, olS w sg c o A B a b] := H42
  refine a_kt rfl ?_
  refine a_done (by kernel_rfl) ?_
  refine fin_end [] [] rfl trivial ?_
  have hzl : (b.wa ++ [blk m]).length = b.wa.length + 1 := by simp
  exact ⟨{ B with pw := p37, cw := c38 }, rfl, by (try dsimp only [Wy.ask, sgI, waI]); rw [ask_cells, hzl]; exact H42.takes [2, 3, 4, 5, 6, 1, 8, 11] (by decide)⟩
 ·
  refine s_buildSlice H29 (wt0 rfl) rfl rfl rfl (vs := [.agg #[.int .i64 ((blk m).p), .int .i64 ((blk m).b), .int .i64 ((blk m).n)]]) rfl Try.underlying37 sz49 ze49 rfl rfl (cells := #[.int .i64 ((blk m).p), .int .i64 ((blk m).b), .int .i64 ((blk m).n)]) (by kernel_rfl) ?_
  intro g43 wq44 H45
  have cm34 := H45.mask [false, true, false, false, false, false, false, false, true, true, false]
  refine a_k cm34 ?_
  refine a_one (i := 7) (by kernel_rfl) rfl ?_
  refine s_call (wt0 rfl) (x_call' rfl rfl cl22) (clone_c b.wa B.pw B.cw (by omega) _ (H45.rwReads (k := 6) rfl)) ?_
  rintro _ wq48 ⟨p46, c47, rfl, H49⟩
  replace H49 : S wq48 [Rw 49 3 p46 b.wa.length c47 (chV b.wa), Ob g43 (.cells #[.int .i64 ((blk m).p), .int .i64 ((blk m).b), .int .i64 ((blk m).n)] 49 (0, 0)), sgI sg c o A B a b, alI A a, waI A a, goI A a, alI B b, waI B b, goI B b, Ob g6 (.cells #[.int .i64 ((blk m).p), .int .i64 ((blk m).b), .int .i64 ((blk m).n)] 49 (0, 0)), ddI g1 sg o m, olS w sg c o A B a b] := H45.absorb (new := [Rw 49 3 p46 b.wa.length c47 (chV b.wa)]) H49
  refine b_ret rfl rfl ?_
  have cm35 := H49.mask [false, false, true, false, false, false, false, false, false, true, true, false]
  refine a_k cm35 ?_
  refine a_one (i := 10) (by kernel_rfl) rfl ?_
  refine s_appendR (n := b.wa.length) (m := 1) (sc := c47) (xs := (chV b.wa)) (news := [.int .i64 ((blk m).p), .int .i64 ((blk m).b), .int .i64 ((blk m).n)]) (p := p46) (ad := ⟨g43, 0, none⟩) H49 0 (wt0 rfl) rfl rfl rfl rfl rfl rfl Try.underlying37 inf49 rfl (by decide) (by decide) rfl (by decide) (news_ob H49 (j0 := 1) rfl) rfl (by omega) ?_
  intro p50 c51 wq52 (H53 : S wq52 [Rw 49 3 p50 (b.wa.length + 1) c51 ((chV b.wa) ++ [.int .i64 ((blk m).p), .int .i64 ((blk m).b), .int .i64 ((blk m).n)]), Ob g43 (.cells #[.int .i64 ((blk m).p), .int .i64 ((blk m).b), .int .i64 ((blk m).n)] 49 (0, 0)), sgI sg c o A B a b, alI A a, waI A a, goI A a, alI B b, waI B b, goI B b, Ob g6 (.cells #[.int .i64 ((blk m).p), .int .i64 ((blk m).b), .int .i64 ((blk m).n)] 49 (0, 0)), ddI g1 sg o m, olS w sg c o A B a b])
  have cm36 := H53.mask [false, false, true, false, false, false, false, false, false, true, true, false]
  refine a_k cm36 ?_
  refine a_one (i := 11) (by kernel_rfl) rfl ?_
  refine s_val (v := .pointer (some ⟨sg, offP o, none⟩)) (wt0 rfl) rfl rfl (x_nilCheck rfl rfl) ?_
  refine a_k cm36 ?_
  refine a_one (i := 12) (by kernel_rfl) rfl ?_
  refine s_val (v := .pointer (some ⟨sg, offP o + 5, none⟩)) (wt0 rfl) rfl rfl (x_fieldAddr rfl rfl fo54_5 rfl) ?_
  refine a_k cm36 ?_
  refine a_one (i := 13) (by kernel_rfl) rfl ?_
  refine s_store1 H53 2 (wt0 rfl) rfl rfl rfl rfl rfl sz37 rfl rfl (sgC_pl rfl rfl (by decide)) ?_
  intro wq54 H55
  rw [sgC_sp rfl rfl (by decide)] at H55
  replace H55 : S wq54 [Rw 49 3 p50 (b.wa.length + 1) c51 ((chV b.wa) ++ [.int .i64 ((blk m).p), .int .i64 ((blk m).b), .int .i64 ((blk m).n)]), Ob g43 (.cells #[.int .i64 ((blk m).p), .int .i64 ((blk m).b), .int .i64 ((blk m).n)] 49 (0, 0)), Ob sg (.cells (sgC o c [.bool a.bg, .bool a.ck, .bool a.wt, .string (a.fd), .slice A.pa a.al.length A.ca, .slice A.pw a.wa.length A.cw, .map (some A.mg)] [.bool b.bg, .bool b.ck, .bool b.wt, .string (b.fd), .slice B.pa b.al.length B.ca, .slice p50 (b.wa.length + 1) c51, .map (some B.mg)]) 57 (0, 0)), alI A a, waI A a, goI A a, alI B b, waI B b, goI B b, Ob g6 (.cells #[.int .i64 ((blk m).p), .int .i64 ((blk m).b), .int .i64 ((blk m).n)] 49 (0, 0)), ddI g1 sg o m, olS w sg c o A B a b] := H55
  refine a_kt rfl ?_
  refine a_done (by kernel_rfl) ?_
  refine fin_end [] [] rfl trivial ?_
  have hzl : (b.wa ++ [blk m]).length = b.wa.length + 1 := by simp
  exact ⟨{ B with pw := p50, cw := c51 }, rfl, by (try dsimp only [Wy.ask, sgI, waI]); rw [ask_cells, hzl]; exact H55.takes [2, 3, 4, 5, 6, 0, 8, 11] (by decide)⟩
end Go.Proofs.Ytdkfkdekiljcoaa
