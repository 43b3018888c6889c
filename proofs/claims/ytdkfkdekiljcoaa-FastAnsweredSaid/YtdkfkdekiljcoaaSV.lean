import Derived.Test.YtdkfkdekiljcoaaSU
set_option linter.unusedSimpArgs false
set_option linter.unusedVariables false
namespace Go.Proofs.Ytdkfkdekiljcoaa
open Go.RowKit

theorem sz52 : szO Try.prog 52 = some 1 := by kernel_rfl
def Wy.shut (a : Wy) : Wy := { a with ck := true, wa := [], go := fun _ => none }
set_option maxRecDepth 20000 in
set_option maxHeartbeats 4000000 in
theorem chokeF_o (sg : Nat) (c : Co) (o : Bool) (A B : Ad) (a b : Wy) (m : M) (hf : c.ft = true) (w : World) (HS : S w [sgI sg c o A B a b, alI A a, waI A a, goI A a, alI B b, waI B b, goI B b]) : Calls Try.prog 44 #[.agg #[.pointer (some ⟨sg, 0, none⟩), .int .i64 (m.kind), .int .i64 (m.i1), .int .i64 (m.i2), .int .i64 (m.i3), .int .i64 (m.i4), .int .i64 (m.i5), .string (m.root), .string (m.data), .pointer (some ⟨sg, offO o, none⟩), .pointer (some ⟨sg, offP o, none⟩)]] w fun e w' => e = .returned (.tuple #[]) ∧ S w' ([sgI sg c o A B ({ a with ck := true }) b, alI A ({ a with ck := true }), waI A ({ a with ck := true }), goI A ({ a with ck := true }), alI B b, waI B b, goI B b] ++ [olS w sg c o A B a b]) := by
 have H0 := HS.beginI
 refine enter 22 Try.func44 rfl rfl rfl ?_
 refine g_weak [(0, .agg #[.pointer (some ⟨sg, 0, none⟩), .int .i64 (m.kind), .int .i64 (m.i1), .int .i64 (m.i2), .int .i64 (m.i3), .int .i64 (m.i4), .int .i64 (m.i5), .string (m.root), .string (m.data), .pointer (some ⟨sg, offO o, none⟩), .pointer (some ⟨sg, offP o, none⟩)])] ⟨rfl, trivial⟩ ?_
 refine w_s ?_
 refine l_of (s_box H0 (wt0 rfl) rfl rfl rfl rfl ?_)
 intro g1 wq2 H3
 refine w_e ?_
 refine w_s ?_
 refine w_f 9 ?_
 refine w_1 H3 0 ?_
 refine w_v xn ?_
 refine w_f (offO o + 1) ?_
 refine l_of (s_store1 H3 1 (wt0 rfl) rfl rfl rfl rfl rfl sz4 rfl rfl (sgC_ol rfl rfl (by decide)) ?_)
 intro wq4 H5
 rw [sgC_so rfl rfl (by decide)] at H5
 replace H5 : S wq4 [ddI g1 sg o m, Ob sg (.cells (sgC o c [.bool a.bg, .bool true, .bool a.wt, .string (a.fd), .slice A.pa a.al.length A.ca, .slice A.pw a.wa.length A.cw, .map (some A.mg)] [.bool b.bg, .bool b.ck, .bool b.wt, .string (b.fd), .slice B.pa b.al.length B.ca, .slice B.pw b.wa.length B.cw, .map (some B.mg)]) 57 (0, 0)), alI A a, waI A a, goI A a, alI B b, waI B b, goI B b, olS w sg c o A B a b] := H5
 refine w_e ?_
 refine w_s ?_
 refine w_f 0 ?_
 refine w_1 H5 0 ?_
 refine w_r3 ?_
 refine w_v (x_load1 H5 1 rfl rfl Try.underlying4 rfl rfl (sgC_c rfl)) ?_
 refine w_v (v := .bool (!(c.ft))) (x_not (b := c.ft) rfl rfl) ?_
 refine w_e ?_
 refine g_cond_f rfl (neg_of hf) ?_
 refine g_skip ?_
 refine fin_end [] [] rfl trivial ?_
 exact ⟨rfl, H5.takes [1, 2, 3, 4, 5, 6, 7, 8] (by decide)⟩
set_option maxRecDepth 20000 in
set_option maxHeartbeats 4000000 in
theorem chokeD_o (sg : Nat) (c : Co) (o : Bool) (A B : Ad) (a b : Wy) (m : M) (hf : c.ft = false) (w : World) (HS : S w [sgI sg c o A B a b, alI A a, waI A a, goI A a, alI B b, waI B b, goI B b]) : Calls Try.prog 44 #[.agg #[.pointer (some ⟨sg, 0, none⟩), .int .i64 (m.kind), .int .i64 (m.i1), .int .i64 (m.i2), .int .i64 (m.i3), .int .i64 (m.i4), .int .i64 (m.i5), .string (m.root), .string (m.data), .pointer (some ⟨sg, offO o, none⟩), .pointer (some ⟨sg, offP o, none⟩)]] w fun e w' => ∃ A' : Ad, e = .returned (.tuple #[]) ∧ S w' ([sgI sg c o A' B (a.shut) b, alI A' (a.shut), waI A' (a.shut), goI A' (a.shut), alI B b, waI B b, goI B b] ++ [olS w sg c o A B a b]) := by
 have H0 := HS.beginI
 refine enter 22 Try.func44 rfl rfl rfl ?_
 refine g_weak [(0, .agg #[.pointer (some ⟨sg, 0, none⟩), .int .i64 (m.kind), .int .i64 (m.i1), .int .i64 (m.i2), .int .i64 (m.i3), .int .i64 (m.i4), .int .i64 (m.i5), .string (m.root), .string (m.data), .pointer (some ⟨sg, offO o, none⟩), .pointer (some ⟨sg, offP o, none⟩)])] ⟨rfl, trivial⟩ ?_
 refine w_s ?_
 refine l_of (s_box H0 (wt0 rfl) rfl rfl rfl rfl ?_)
 intro g1 wq2 H3
 refine w_e ?_
 refine w_s ?_
 refine w_f 9 ?_
 refine w_1 H3 0 ?_
 refine w_v xn ?_
 refine w_f (offO o + 1) ?_
 refine l_of (s_store1 H3 1 (wt0 rfl) rfl rfl rfl rfl rfl sz4 rfl rfl (sgC_ol rfl rfl (by decide)) ?_)
 intro wq4 H5
 rw [sgC_so rfl rfl (by decide)] at H5
 replace H5 : S wq4 [ddI g1 sg o m, Ob sg (.cells (sgC o c [.bool a.bg, .bool true, .bool a.wt, .string (a.fd), .slice A.pa a.al.length A.ca, .slice A.pw a.wa.length A.cw, .map (some A.mg)] [.bool b.bg, .bool b.ck, .bool b.wt, .string (b.fd), .slice B.pa b.al.length B.ca, .slice B.pw b.wa.length B.cw, .map (some B.mg)]) 57 (0, 0)), alI A a, waI A a, goI A a, alI B b, waI B b, goI B b, olS w sg c o A B a b] := H5
 refine w_e ?_
 refine w_s ?_
 refine w_f 0 ?_
 refine w_1 H5 0 ?_
 refine w_r3 ?_
 refine w_v (x_load1 H5 1 rfl rfl Try.underlying4 rfl rfl (sgC_c rfl)) ?_
 refine w_v (v := .bool (!(c.ft))) (x_not (b := c.ft) rfl rfl) ?_
 refine w_e ?_
 refine g_cond_t rfl (neg_of hf) ?_
 refine g_any [(0, .agg #[.pointer (some ⟨sg, 0, none⟩), .int .i64 (m.kind), .int .i64 (m.i1), .int .i64 (m.i2), .int .i64 (m.i3), .int .i64 (m.i4), .int .i64 (m.i5), .string (m.root), .string (m.data), .pointer (some ⟨sg, offO o, none⟩), .pointer (some ⟨sg, offP o, none⟩)]), (1, .pointer (some ⟨g1, 0, none⟩)), (2, .pointer (some ⟨g1, 9, none⟩)), (3, .pointer (some ⟨sg, offO o, none⟩)), (4, .pointer (some ⟨sg, offO o, none⟩)), (5, .pointer (some ⟨sg, offO o + 1, none⟩)), (6, .pointer (some ⟨g1, 0, none⟩)), (7, .pointer (some ⟨sg, 0, none⟩)), (8, .pointer (some ⟨sg, 0, none⟩)), (9, .pointer (some ⟨sg, 0, none⟩)), (10, .pointer (some ⟨sg, 4, none⟩)), (11, .bool c.ft), (12, .bool (!(c.ft)))] (fun wx => S wx [ddI g1 sg o m]) [] (by kernel_rfl) H5 (fun wq6 H7 => ?_)
 have cm1 := H7.mask [true, false, false, false, false, false, false, false, false]
 refine w_t 0 rfl cm1 (fun _ _ => xf 9) ?_
 refine w_t 1 rfl cm1 (fun _ H => xl H 0) ?_
 refine w_t 2 rfl cm1 (fun _ _ => xf 9) ?_
 refine w_t 3 rfl cm1 (fun _ H => xl H 0) ?_
 refine a_two (i := 4) (j := 5) (by kernel_rfl) rfl rfl ?_ ?_
 ·
  refine s_makeMap (α := Bool) chK Value.bool chOk H7 (wt0 rfl) rfl rfl rfl ?_
  intro mg8 wq9 H10
  have cm2 := H10.mask [false, true, false, false, false, false, false, false, false, false]
  refine a_k cm2 ?_
  refine a_one (i := 5) (by kernel_rfl) rfl ?_
  refine s_val (v := .pointer (some ⟨sg, offO o, none⟩)) (wt0 rfl) rfl rfl (x_nilCheck rfl rfl) ?_
  refine a_k cm2 ?_
  refine a_one (i := 6) (by kernel_rfl) rfl ?_
  refine s_val (v := .pointer (some ⟨sg, offO o + 5, none⟩)) (wt0 rfl) rfl rfl (x_fieldAddr rfl rfl fo54_5 rfl) ?_
  refine a_k cm2 ?_
  refine a_one (i := 7) (by kernel_rfl) rfl ?_
  refine s_store1 H10 2 (wt0 rfl) rfl rfl rfl rfl rfl sz37 rfl rfl (sgC_ol rfl rfl (by decide)) ?_
  intro wq11 H12
  rw [sgC_so rfl rfl (by decide)] at H12
  replace H12 : S wq11 [Mp chK Value.bool chOk mg8 (fun _ => none), ddI g1 sg o m, Ob sg (.cells (sgC o c [.bool a.bg, .bool true, .bool a.wt, .string (a.fd), .slice A.pa a.al.length A.ca, .slice none 0 0, .map (some A.mg)] [.bool b.bg, .bool b.ck, .bool b.wt, .string (b.fd), .slice B.pa b.al.length B.ca, .slice B.pw b.wa.length B.cw, .map (some B.mg)]) 57 (0, 0)), alI A a, waI A a, goI A a, alI B b, waI B b, goI B b, olS w sg c o A B a b] := H12
  have cm3 := H12.mask [false, true, false, false, false, false, false, false, false, false]
  refine a_k cm3 ?_
  refine a_one (i := 8) (by kernel_rfl) rfl ?_
  refine s_val (v := .pointer (some ⟨sg, offO o, none⟩)) (wt0 rfl) rfl rfl (x_nilCheck rfl rfl) ?_
  refine a_k cm3 ?_
  refine a_one (i := 9) (by kernel_rfl) rfl ?_
  refine s_val (v := .pointer (some ⟨sg, offO o + 6, none⟩)) (wt0 rfl) rfl rfl (x_fieldAddr rfl rfl fo54_6 rfl) ?_
  refine a_k cm3 ?_
  refine a_one (i := 10) (by kernel_rfl) rfl ?_
  refine s_store1 H12 2 (wt0 rfl) rfl rfl rfl rfl rfl sz52 rfl rfl (sgC_ol rfl rfl (by decide)) ?_
  intro wq13 H14
  rw [sgC_so rfl rfl (by decide)] at H14
  replace H14 : S wq13 [Mp chK Value.bool chOk mg8 (fun _ => none), ddI g1 sg o m, Ob sg (.cells (sgC o c [.bool a.bg, .bool true, .bool a.wt, .string (a.fd), .slice A.pa a.al.length A.ca, .slice none 0 0, .map (some mg8)] [.bool b.bg, .bool b.ck, .bool b.wt, .string (b.fd), .slice B.pa b.al.length B.ca, .slice B.pw b.wa.length B.cw, .map (some B.mg)]) 57 (0, 0)), alI A a, waI A a, goI A a, alI B b, waI B b, goI B b, olS w sg c o A B a b] := H14
  refine a_k (H14.mask [false, true, false, false, false, false, false, false, false, false]) ?_
  refine a_done (by kernel_rfl) ?_
  refine fin_end [] [] rfl trivial ?_
  exact ⟨{ A with pw := none, cw := 0, mg := mg8 }, rfl, (H14.nilRw 49 3).takes [3, 4, 0, 1, 7, 8, 9, 10] (by decide)⟩
 ·
  refine s_val (v := .pointer (some ⟨sg, offO o, none⟩)) (wt0 rfl) rfl rfl (x_nilCheck rfl rfl) ?_
  have cm4 := H7.mask [true, false, false, false, false, false, false, false, false]
  refine a_k cm4 ?_
  refine a_two (i := 4) (j := 6) (by kernel_rfl) rfl rfl ?_ ?_
  ·
   refine s_makeMap (α := Bool) chK Value.bool chOk H7 (wt0 rfl) rfl rfl rfl ?_
   intro mg15 wq16 H17
   have cm5 := H17.mask [false, true, false, false, false, false, false, false, false, false]
   refine a_k cm5 ?_
   refine a_one (i := 6) (by kernel_rfl) rfl ?_
   refine s_val (v := .pointer (some ⟨sg, offO o + 5, none⟩)) (wt0 rfl) rfl rfl (x_fieldAddr rfl rfl fo54_5 rfl) ?_
   refine a_k cm5 ?_
   refine a_one (i := 7) (by kernel_rfl) rfl ?_
   refine s_store1 H17 2 (wt0 rfl) rfl rfl rfl rfl rfl sz37 rfl rfl (sgC_ol rfl rfl (by decide)) ?_
   intro wq18 H19
   rw [sgC_so rfl rfl (by decide)] at H19
   replace H19 : S wq18 [Mp chK Value.bool chOk mg15 (fun _ => none), ddI g1 sg o m, Ob sg (.cells (sgC o c [.bool a.bg, .bool true, .bool a.wt, .string (a.fd), .slice A.pa a.al.length A.ca, .slice none 0 0, .map (some A.mg)] [.bool b.bg, .bool b.ck, .bool b.wt, .string (b.fd), .slice B.pa b.al.length B.ca, .slice B.pw b.wa.length B.cw, .map (some B.mg)]) 57 (0, 0)), alI A a, waI A a, goI A a, alI B b, waI B b, goI B b, olS w sg c o A B a b] := H19
   have cm6 := H19.mask [false, true, false, false, false, false, false, false, false, false]
   refine a_k cm6 ?_
   refine a_one (i := 8) (by kernel_rfl) rfl ?_
   refine s_val (v := .pointer (some ⟨sg, offO o, none⟩)) (wt0 rfl) rfl rfl (x_nilCheck rfl rfl) ?_
   refine a_k cm6 ?_
   refine a_one (i := 9) (by kernel_rfl) rfl ?_
   refine s_val (v := .pointer (some ⟨sg, offO o + 6, none⟩)) (wt0 rfl) rfl rfl (x_fieldAddr rfl rfl fo54_6 rfl) ?_
   refine a_k cm6 ?_
   refine a_one (i := 10) (by kernel_rfl) rfl ?_
   refine s_store1 H19 2 (wt0 rfl) rfl rfl rfl rfl rfl sz52 rfl rfl (sgC_ol rfl rfl (by decide)) ?_
   intro wq20 H21
   rw [sgC_so rfl rfl (by decide)] at H21
   replace H21 : S wq20 [Mp chK Value.bool chOk mg15 (fun _ => none), ddI g1 sg o m, Ob sg (.cells (sgC o c [.bool a.bg, .bool true, .bool a.wt, .string (a.fd), .slice A.pa a.al.length A.ca, .slice none 0 0, .map (some mg15)] [.bool b.bg, .bool b.ck, .bool b.wt, .string (b.fd), .slice B.pa b.al.length B.ca, .slice B.pw b.wa.length B.cw, .map (some B.mg)]) 57 (0, 0)), alI A a, waI A a, goI A a, alI B b, waI B b, goI B b, olS w sg c o A B a b] := H21
   refine a_k (H21.mask [false, true, false, false, false, false, false, false, false, false]) ?_
   refine a_done (by kernel_rfl) ?_
   refine fin_end [] [] rfl trivial ?_
   exact ⟨{ A with pw := none, cw := 0, mg := mg15 }, rfl, (H21.nilRw 49 3).takes [3, 4, 0, 1, 7, 8, 9, 10] (by decide)⟩
  ·
   refine s_val (v := .pointer (some ⟨sg, offO o + 5, none⟩)) (wt0 rfl) rfl rfl (x_fieldAddr rfl rfl fo54_5 rfl) ?_
   have cm7 := H7.mask [true, false, false, false, false, false, false, false, false]
   refine a_k cm7 ?_
   refine a_two (i := 4) (j := 7) (by kernel_rfl) rfl rfl ?_ ?_
   ·
    refine s_makeMap (α := Bool) chK Value.bool chOk H7 (wt0 rfl) rfl rfl rfl ?_
    intro mg22 wq23 H24
    refine a_k (H24.mask [false, true, false, false, false, false, false, false, false, false]) ?_
    refine a_one (i := 7) (by kernel_rfl) rfl ?_
    refine s_store1 H24 2 (wt0 rfl) rfl rfl rfl rfl rfl sz37 rfl rfl (sgC_ol rfl rfl (by decide)) ?_
    intro wq25 H26
    rw [sgC_so rfl rfl (by decide)] at H26
    replace H26 : S wq25 [Mp chK Value.bool chOk mg22 (fun _ => none), ddI g1 sg o m, Ob sg (.cells (sgC o c [.bool a.bg, .bool true, .bool a.wt, .string (a.fd), .slice A.pa a.al.length A.ca, .slice none 0 0, .map (some A.mg)] [.bool b.bg, .bool b.ck, .bool b.wt, .string (b.fd), .slice B.pa b.al.length B.ca, .slice B.pw b.wa.length B.cw, .map (some B.mg)]) 57 (0, 0)), alI A a, waI A a, goI A a, alI B b, waI B b, goI B b, olS w sg c o A B a b] := H26
    have cm8 := H26.mask [false, true, false, false, false, false, false, false, false, false]
    refine a_k cm8 ?_
    refine a_one (i := 8) (by kernel_rfl) rfl ?_
    refine s_val (v := .pointer (some ⟨sg, offO o, none⟩)) (wt0 rfl) rfl rfl (x_nilCheck rfl rfl) ?_
    refine a_k cm8 ?_
    refine a_one (i := 9) (by kernel_rfl) rfl ?_
    refine s_val (v := .pointer (some ⟨sg, offO o + 6, none⟩)) (wt0 rfl) rfl rfl (x_fieldAddr rfl rfl fo54_6 rfl) ?_
    refine a_k cm8 ?_
    refine a_one (i := 10) (by kernel_rfl) rfl ?_
    refine s_store1 H26 2 (wt0 rfl) rfl rfl rfl rfl rfl sz52 rfl rfl (sgC_ol rfl rfl (by decide)) ?_
    intro wq27 H28
    rw [sgC_so rfl rfl (by decide)] at H28
    replace H28 : S wq27 [Mp chK Value.bool chOk mg22 (fun _ => none), ddI g1 sg o m, Ob sg (.cells (sgC o c [.bool a.bg, .bool true, .bool a.wt, .string (a.fd), .slice A.pa a.al.length A.ca, .slice none 0 0, .map (some mg22)] [.bool b.bg, .bool b.ck, .bool b.wt, .string (b.fd), .slice B.pa b.al.length B.ca, .slice B.pw b.wa.length B.cw, .map (some B.mg)]) 57 (0, 0)), alI A a, waI A a, goI A a, alI B b, waI B b, goI B b, olS w sg c o A B a b] := H28
    refine a_k (H28.mask [false, true, false, false, false, false, false, false, false, false]) ?_
    refine a_done (by kernel_rfl) ?_
    refine fin_end [] [] rfl trivial ?_
    exact ⟨{ A with pw := none, cw := 0, mg := mg22 }, rfl, (H28.nilRw 49 3).takes [3, 4, 0, 1, 7, 8, 9, 10] (by decide)⟩
   ·
    refine s_store1 H7 1 (wt0 rfl) rfl rfl rfl rfl rfl sz37 rfl rfl (sgC_ol rfl rfl (by decide)) ?_
    intro wq29 H30
    rw [sgC_so rfl rfl (by decide)] at H30
    replace H30 : S wq29 [ddI g1 sg o m, Ob sg (.cells (sgC o c [.bool a.bg, .bool true, .bool a.wt, .string (a.fd), .slice A.pa a.al.length A.ca, .slice none 0 0, .map (some A.mg)] [.bool b.bg, .bool b.ck, .bool b.wt, .string (b.fd), .slice B.pa b.al.length B.ca, .slice B.pw b.wa.length B.cw, .map (some B.mg)]) 57 (0, 0)), alI A a, waI A a, goI A a, alI B b, waI B b, goI B b, olS w sg c o A B a b] := H30
    refine a_k (H30.mask [true, false, false, false, false, false, false, false, false]) ?_
    refine a_one (i := 4) (by kernel_rfl) rfl ?_
    refine s_makeMap (α := Bool) chK Value.bool chOk H30 (wt0 rfl) rfl rfl rfl ?_
    intro mg31 wq32 H33
    have cm9 := H33.mask [false, true, false, false, false, false, false, false, false, false]
    refine a_k cm9 ?_
    refine a_one (i := 8) (by kernel_rfl) rfl ?_
    refine s_val (v := .pointer (some ⟨sg, offO o, none⟩)) (wt0 rfl) rfl rfl (x_nilCheck rfl rfl) ?_
    refine a_k cm9 ?_
    refine a_one (i := 9) (by kernel_rfl) rfl ?_
    refine s_val (v := .pointer (some ⟨sg, offO o + 6, none⟩)) (wt0 rfl) rfl rfl (x_fieldAddr rfl rfl fo54_6 rfl) ?_
    refine a_k cm9 ?_
    refine a_one (i := 10) (by kernel_rfl) rfl ?_
    refine s_store1 H33 2 (wt0 rfl) rfl rfl rfl rfl rfl sz52 rfl rfl (sgC_ol rfl rfl (by decide)) ?_
    intro wq34 H35
    rw [sgC_so rfl rfl (by decide)] at H35
    replace H35 : S wq34 [Mp chK Value.bool chOk mg31 (fun _ => none), ddI g1 sg o m, Ob sg (.cells (sgC o c [.bool a.bg, .bool true, .bool a.wt, .string (a.fd), .slice A.pa a.al.length A.ca, .slice none 0 0, .map (some mg31)] [.bool b.bg, .bool b.ck, .bool b.wt, .string (b.fd), .slice B.pa b.al.length B.ca, .slice B.pw b.wa.length B.cw, .map (some B.mg)]) 57 (0, 0)), alI A a, waI A a, goI A a, alI B b, waI B b, goI B b, olS w sg c o A B a b] := H35
    refine a_k (H35.mask [false, true, false, false, false, false, false, false, false, false]) ?_
    refine a_done (by kernel_rfl) ?_
    refine fin_end [] [] rfl trivial ?_
    exact ⟨{ A with pw := none, cw := 0, mg := mg31 }, rfl, (H35.nilRw 49 3).takes [3, 4, 0, 1, 7, 8, 9, 10] (by decide)⟩
end Go.Proofs.Ytdkfkdekiljcoaa
