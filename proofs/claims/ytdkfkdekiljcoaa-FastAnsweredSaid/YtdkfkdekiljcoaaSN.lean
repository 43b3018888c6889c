import Derived.Test.YtdkfkdekiljcoaaSM
set_option linter.unusedSimpArgs false
set_option linter.unusedVariables false
namespace Go.Proofs.Ytdkfkdekiljcoaa
open Go.RowKit

theorem cl76 : callable Try.prog 76 = true := by kernel_rfl
theorem fo54_6 : foO Try.prog 54 6 = some 6 := by kernel_rfl
theorem sz37 : szO Try.prog 37 = some 1 := by kernel_rfl
def Wy.drop (a : Wy) (x : Ch) : Wy := { a with wa := dropS a.wa x, go := delM a.go x }
set_option maxRecDepth 20000 in
set_option maxHeartbeats 4000000 in
theorem drop_o (sg : Nat) (c : Co) (o : Bool) (A B : Ad) (a b : Wy) (x : Ch) (hok : chOk x) (hwl : a.wa.length ≤ 1099511627776) (w : World) (HS : S w [sgI sg c o A B a b, alI A a, waI A a, goI A a, alI B b, waI B b, goI B b]) : Calls Try.prog 55 #[.pointer (some ⟨sg, offO o, none⟩), .agg #[.int .i64 (x.p), .int .i64 (x.b), .int .i64 (x.n)]] w fun e w' => e = .returned (.tuple #[]) ∧ S w' ([sgI sg c o A B (a.drop x) b, alI A (a.drop x), waI A (a.drop x), goI A (a.drop x), alI B b, waI B b, goI B b] ++ [olS w sg c o A B a b]) := by
 have H0 := HS.beginI
 refine enter 18 Try.func55 rfl rfl rfl ?_
 refine g_weak [(0, .pointer (some ⟨sg, offO o, none⟩)), (1, .agg #[.int .i64 (x.p), .int .i64 (x.b), .int .i64 (x.n)])] ⟨rfl, rfl, trivial⟩ ?_
 refine w_s ?_
 refine l_of (s_box H0 (wt0 rfl) rfl rfl rfl rfl ?_)
 intro g1 wq2 H3
 refine w_e ?_
 refine w_s ?_
 refine w_r3 ?_
 refine w_f (offO o + 5) ?_
 refine w_v (x_load1 H3 1 rfl rfl Try.underlying37 rfl rfl (sgC_o rfl rfl rfl)) ?_
 refine w_v (v := .func (.func 77) #[] #[.pointer (some ⟨g1, 0, none⟩)]) (x_makeFunc rfl rfl rfl) ?_
 refine l_of (s_call (wt0 rfl) (x_call' rfl rfl cl76) (delF_s g1 x a.wa A.pw A.cw (by omega) _ (H3.takes [0, 3] (by decide))) ?_)
 rintro _ wq4 ⟨rfl, H5⟩
 replace H5 : S wq4 [Ob g1 (.cells #[.int .i64 (x.p), .int .i64 (x.b), .int .i64 (x.n)] 49 (0, 0)), Rw 49 3 A.pw (dropS a.wa x).length A.cw (chV (dropS a.wa x)), sgI sg c o A B a b, alI A a, goI A a, alI B b, waI B b, goI B b, olS w sg c o A B a b] := by have h := H3.absorbI [0, 3] H5; exact h
 refine b_ret rfl rfl ?_
 refine w_v xn ?_
 refine w_f (offO o + 5) ?_
 refine l_of (s_store1 H5 2 (wt0 rfl) rfl rfl rfl rfl rfl sz37 rfl rfl (sgC_ol rfl rfl (by decide)) ?_)
 intro wq6 H7
 rw [sgC_so rfl rfl (by decide)] at H7
 replace H7 : S wq6 [Ob g1 (.cells #[.int .i64 (x.p), .int .i64 (x.b), .int .i64 (x.n)] 49 (0, 0)), Rw 49 3 A.pw (dropS a.wa x).length A.cw (chV (dropS a.wa x)), Ob sg (.cells (sgC o c [.bool a.bg, .bool a.ck, .bool a.wt, .string (a.fd), .slice A.pa a.al.length A.ca, .slice A.pw (dropS a.wa x).length A.cw, .map (some A.mg)] [.bool b.bg, .bool b.ck, .bool b.wt, .string (b.fd), .slice B.pa b.al.length B.ca, .slice B.pw b.wa.length B.cw, .map (some B.mg)]) 57 (0, 0)), alI A a, goI A a, alI B b, waI B b, goI B b, olS w sg c o A B a b] := H7
 refine w_e ?_
 refine g_any [] (fun wx => S wx [Ob g1 (.cells #[.int .i64 (x.p), .int .i64 (x.b), .int .i64 (x.n)] 49 (0, 0)), Ob sg (.cells (sgC o c [.bool a.bg, .bool a.ck, .bool a.wt, .string (a.fd), .slice A.pa a.al.length A.ca, .slice A.pw (dropS a.wa x).length A.cw, .map (some A.mg)] [.bool b.bg, .bool b.ck, .bool b.wt, .string (b.fd), .slice B.pa b.al.length B.ca, .slice B.pw b.wa.length B.cw, .map (some B.mg)]) 57 (0, 0))]) [] (by kernel_rfl) H7 (fun wq8 H9 => ?_)
 have cm1 := H9.mask [true, false, true, false, false, false, false, false, false]
 refine w_t 0 rfl cm1 (fun _ _ => xm) ?_
 refine w_t 1 rfl cm1 (fun _ _ => xn) ?_
 refine w_t 2 rfl cm1 (fun _ _ => xf (offO o + 6)) ?_
 refine w_t 3 rfl cm1 (fun _ H => x_load1 H 1 rfl rfl Try.underlying52 rfl rfl (sgC_o rfl rfl rfl)) ?_
 refine w_t (v := .agg #[.int .i64 (x.p), .int .i64 (x.b), .int .i64 (x.n)]) 4 rfl cm1 (fun _ H => x_loadA H 0 rfl rfl Try.underlying49 rfl sz49 rfl rfl rfl) ?_
 refine a_one (i := 5) (by kernel_rfl) rfl ?_
 refine s_delete (x := x) goneT H9 4 (wt0 rfl) rfl rfl rfl rfl rfl hok ?_
 intro wq10 H11
 have cm2 := H11.mask [true, false, true, false, false, false, false, false, false]
 refine a_k cm2 ?_
 refine a_done (by kernel_rfl) ?_
 refine fin_end [] [] rfl trivial ?_
 exact ⟨rfl, H11.takes [2, 3, 1, 4, 5, 6, 7, 8] (by decide)⟩
set_option maxRecDepth 20000 in
set_option maxHeartbeats 4000000 in
theorem drop_p (sg : Nat) (c : Co) (o : Bool) (A B : Ad) (a b : Wy) (x : Ch) (hok : chOk x) (hwl : b.wa.length ≤ 1099511627776) (w : World) (HS : S w [sgI sg c o A B a b, alI A a, waI A a, goI A a, alI B b, waI B b, goI B b]) : Calls Try.prog 55 #[.pointer (some ⟨sg, offP o, none⟩), .agg #[.int .i64 (x.p), .int .i64 (x.b), .int .i64 (x.n)]] w fun e w' => e = .returned (.tuple #[]) ∧ S w' ([sgI sg c o A B a (b.drop x), alI A a, waI A a, goI A a, alI B (b.drop x), waI B (b.drop x), goI B (b.drop x)] ++ [olS w sg c o A B a b]) := by
 have H0 := HS.beginI
 refine enter 18 Try.func55 rfl rfl rfl ?_
 refine g_weak [(0, .pointer (some ⟨sg, offP o, none⟩)), (1, .agg #[.int .i64 (x.p), .int .i64 (x.b), .int .i64 (x.n)])] ⟨rfl, rfl, trivial⟩ ?_
 refine w_s ?_
 refine l_of (s_box H0 (wt0 rfl) rfl rfl rfl rfl ?_)
 intro g1 wq2 H3
 refine w_e ?_
 refine w_s ?_
 refine w_r3 ?_
 refine w_f (offP o + 5) ?_
 refine w_v (x_load1 H3 1 rfl rfl Try.underlying37 rfl rfl (sgC_p rfl rfl rfl)) ?_
 refine w_v (v := .func (.func 77) #[] #[.pointer (some ⟨g1, 0, none⟩)]) (x_makeFunc rfl rfl rfl) ?_
 refine l_of (s_call (wt0 rfl) (x_call' rfl rfl cl76) (delF_s g1 x b.wa B.pw B.cw (by omega) _ (H3.takes [0, 6] (by decide))) ?_)
 rintro _ wq4 ⟨rfl, H5⟩
 replace H5 : S wq4 [Ob g1 (.cells #[.int .i64 (x.p), .int .i64 (x.b), .int .i64 (x.n)] 49 (0, 0)), Rw 49 3 B.pw (dropS b.wa x).length B.cw (chV (dropS b.wa x)), sgI sg c o A B a b, alI A a, waI A a, goI A a, alI B b, goI B b, olS w sg c o A B a b] := by have h := H3.absorbI [0, 6] H5; exact h
 refine b_ret rfl rfl ?_
 refine w_v xn ?_
 refine w_f (offP o + 5) ?_
 refine l_of (s_store1 H5 2 (wt0 rfl) rfl rfl rfl rfl rfl sz37 rfl rfl (sgC_pl rfl rfl (by decide)) ?_)
 intro wq6 H7
 rw [sgC_sp rfl rfl (by decide)] at H7
 replace H7 : S wq6 [Ob g1 (.cells #[.int .i64 (x.p), .int .i64 (x.b), .int .i64 (x.n)] 49 (0, 0)), Rw 49 3 B.pw (dropS b.wa x).length B.cw (chV (dropS b.wa x)), Ob sg (.cells (sgC o c [.bool a.bg, .bool a.ck, .bool a.wt, .string (a.fd), .slice A.pa a.al.length A.ca, .slice A.pw a.wa.length A.cw, .map (some A.mg)] [.bool b.bg, .bool b.ck, .bool b.wt, .string (b.fd), .slice B.pa b.al.length B.ca, .slice B.pw (dropS b.wa x).length B.cw, .map (some B.mg)]) 57 (0, 0)), alI A a, waI A a, goI A a, alI B b, goI B b, olS w sg c o A B a b] := H7
 refine w_e ?_
 refine g_any [] (fun wx => S wx [Ob g1 (.cells #[.int .i64 (x.p), .int .i64 (x.b), .int .i64 (x.n)] 49 (0, 0)), Ob sg (.cells (sgC o c [.bool a.bg, .bool a.ck, .bool a.wt, .string (a.fd), .slice A.pa a.al.length A.ca, .slice A.pw a.wa.length A.cw, .map (some A.mg)] [.bool b.bg, .bool b.ck, .bool b.wt, .string (b.fd), .slice B.pa b.al.length B.ca, .slice B.pw (dropS b.wa x).length B.cw, .map (some B.mg)]) 57 (0, 0))]) [] (by kernel_rfl) H7 (fun wq8 H9 => ?_)
 have cm3 := H9.mask [true, false, true, false, false, false, false, false, false]
 refine w_t 0 rfl cm3 (fun _ _ => xm) ?_
 refine w_t 1 rfl cm3 (fun _ _ => xn) ?_
 refine w_t 2 rfl cm3 (fun _ _ => xf (offP o + 6)) ?_
 refine w_t 3 rfl cm3 (fun _ H => x_load1 H 1 rfl rfl Try.underlying52 rfl rfl (sgC_p rfl rfl rfl)) ?_
 refine w_t (v := .agg #[.int .i64 (x.p), .int .i64 (x.b), .int .i64 (x.n)]) 4 rfl cm3 (fun _ H => x_loadA H 0 rfl rfl Try.underlying49 rfl sz49 rfl rfl rfl) ?_
 refine a_one (i := 5) (by kernel_rfl) rfl ?_
 refine s_delete (x := x) goneT H9 7 (wt0 rfl) rfl rfl rfl rfl rfl hok ?_
 intro wq10 H11
 have cm4 := H11.mask [true, false, true, false, false, false, false, false, false]
 refine a_k cm4 ?_
 refine a_done (by kernel_rfl) ?_
 refine fin_end [] [] rfl trivial ?_
 exact ⟨rfl, H11.takes [2, 3, 4, 5, 6, 1, 7, 8] (by decide)⟩
end Go.Proofs.Ytdkfkdekiljcoaa
