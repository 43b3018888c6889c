import Derived.Test.YtdkfkdekiljcoaaSP
set_option linter.unusedSimpArgs false
set_option linter.unusedVariables false
namespace Go.Proofs.Ytdkfkdekiljcoaa
open Go.RowKit

theorem fo75_2 : foO Try.prog 75 2 = some 9 := by kernel_rfl
set_option maxRecDepth 20000 in
set_option maxHeartbeats 4000000 in
theorem unchoke_o (sg : Nat) (c : Co) (o : Bool) (A B : Ad) (a b : Wy) (m : M) (w : World) (HS : S w [sgI sg c o A B a b, alI A a, waI A a, goI A a, alI B b, waI B b, goI B b]) : Calls Try.prog 45 #[.agg #[.pointer (some ⟨sg, 0, none⟩), .int .i64 (m.kind), .int .i64 (m.i1), .int .i64 (m.i2), .int .i64 (m.i3), .int .i64 (m.i4), .int .i64 (m.i5), .string (m.root), .string (m.data), .pointer (some ⟨sg, offO o, none⟩), .pointer (some ⟨sg, offP o, none⟩)]] w fun e w' => e = .returned (.tuple #[]) ∧ S w' ([sgI sg c o A B ({ a with ck := false }) b, alI A ({ a with ck := false }), waI A ({ a with ck := false }), goI A ({ a with ck := false }), alI B b, waI B b, goI B b] ++ [olS w sg c o A B a b]) := by
 have H0 := HS.beginI
 refine enter 6 Try.func45 rfl rfl rfl ?_
 refine g_weak [(0, .agg #[.pointer (some ⟨sg, 0, none⟩), .int .i64 (m.kind), .int .i64 (m.i1), .int .i64 (m.i2), .int .i64 (m.i3), .int .i64 (m.i4), .int .i64 (m.i5), .string (m.root), .string (m.data), .pointer (some ⟨sg, offO o, none⟩), .pointer (some ⟨sg, offP o, none⟩)])] ⟨rfl, trivial⟩ ?_
 refine w_s ?_
 refine l_of (s_box H0 (wt0 rfl) rfl rfl rfl rfl ?_)
 intro g1 wq2 H3
 refine w_e ?_
 refine g_region ?_
 refine w_f 9 ?_
 refine w_1 H3 0 ?_
 refine w_v xn ?_
 refine w_f (offO o + 1) ?_
 refine l_of (s_store1 H3 1 (wt0 rfl) rfl rfl rfl rfl rfl sz4 rfl rfl (sgC_ol rfl rfl (by decide)) ?_)
 intro wq4 H5
 rw [sgC_so rfl rfl (by decide)] at H5
 replace H5 : S wq4 [ddI g1 sg o m, Ob sg (.cells (sgC o c [.bool a.bg, .bool false, .bool a.wt, .string (a.fd), .slice A.pa a.al.length A.ca, .slice A.pw a.wa.length A.cw, .map (some A.mg)] [.bool b.bg, .bool b.ck, .bool b.wt, .string (b.fd), .slice B.pa b.al.length B.ca, .slice B.pw b.wa.length B.cw, .map (some B.mg)]) 57 (0, 0)), alI A a, waI A a, goI A a, alI B b, waI B b, goI B b, olS w sg c o A B a b] := H5
 refine g_nil ?_
 refine fin_end [] [] rfl trivial ?_
 exact ⟨rfl, H5.takes [1, 2, 3, 4, 5, 6, 7, 8] (by decide)⟩
set_option maxRecDepth 20000 in
set_option maxHeartbeats 4000000 in
theorem wants1_o (sg : Nat) (c : Co) (o : Bool) (A B : Ad) (a b : Wy) (m : M) (w : World) (HS : S w [sgI sg c o A B a b, alI A a, waI A a, goI A a, alI B b, waI B b, goI B b]) : Calls Try.prog 46 #[.agg #[.pointer (some ⟨sg, 0, none⟩), .int .i64 (m.kind), .int .i64 (m.i1), .int .i64 (m.i2), .int .i64 (m.i3), .int .i64 (m.i4), .int .i64 (m.i5), .string (m.root), .string (m.data), .pointer (some ⟨sg, offO o, none⟩), .pointer (some ⟨sg, offP o, none⟩)]] w fun e w' => e = .returned (.tuple #[]) ∧ S w' ([sgI sg c o A B ({ a with wt := true }) b, alI A ({ a with wt := true }), waI A ({ a with wt := true }), goI A ({ a with wt := true }), alI B b, waI B b, goI B b] ++ [olS w sg c o A B a b]) := by
 have H0 := HS.beginI
 refine enter 6 Try.func46 rfl rfl rfl ?_
 refine g_weak [(0, .agg #[.pointer (some ⟨sg, 0, none⟩), .int .i64 (m.kind), .int .i64 (m.i1), .int .i64 (m.i2), .int .i64 (m.i3), .int .i64 (m.i4), .int .i64 (m.i5), .string (m.root), .string (m.data), .pointer (some ⟨sg, offO o, none⟩), .pointer (some ⟨sg, offP o, none⟩)])] ⟨rfl, trivial⟩ ?_
 refine w_s ?_
 refine l_of (s_box H0 (wt0 rfl) rfl rfl rfl rfl ?_)
 intro g1 wq2 H3
 refine w_e ?_
 refine g_region ?_
 refine w_f 9 ?_
 refine w_1 H3 0 ?_
 refine w_v xn ?_
 refine w_f (offO o + 2) ?_
 refine l_of (s_store1 H3 1 (wt0 rfl) rfl rfl rfl rfl rfl sz4 rfl rfl (sgC_ol rfl rfl (by decide)) ?_)
 intro wq4 H5
 rw [sgC_so rfl rfl (by decide)] at H5
 replace H5 : S wq4 [ddI g1 sg o m, Ob sg (.cells (sgC o c [.bool a.bg, .bool a.ck, .bool true, .string (a.fd), .slice A.pa a.al.length A.ca, .slice A.pw a.wa.length A.cw, .map (some A.mg)] [.bool b.bg, .bool b.ck, .bool b.wt, .string (b.fd), .slice B.pa b.al.length B.ca, .slice B.pw b.wa.length B.cw, .map (some B.mg)]) 57 (0, 0)), alI A a, waI A a, goI A a, alI B b, waI B b, goI B b, olS w sg c o A B a b] := H5
 refine g_nil ?_
 refine fin_end [] [] rfl trivial ?_
 exact ⟨rfl, H5.takes [1, 2, 3, 4, 5, 6, 7, 8] (by decide)⟩
set_option maxRecDepth 20000 in
set_option maxHeartbeats 4000000 in
theorem wants0_o (sg : Nat) (c : Co) (o : Bool) (A B : Ad) (a b : Wy) (m : M) (w : World) (HS : S w [sgI sg c o A B a b, alI A a, waI A a, goI A a, alI B b, waI B b, goI B b]) : Calls Try.prog 47 #[.agg #[.pointer (some ⟨sg, 0, none⟩), .int .i64 (m.kind), .int .i64 (m.i1), .int .i64 (m.i2), .int .i64 (m.i3), .int .i64 (m.i4), .int .i64 (m.i5), .string (m.root), .string (m.data), .pointer (some ⟨sg, offO o, none⟩), .pointer (some ⟨sg, offP o, none⟩)]] w fun e w' => e = .returned (.tuple #[]) ∧ S w' ([sgI sg c o A B ({ a with wt := false }) b, alI A ({ a with wt := false }), waI A ({ a with wt := false }), goI A ({ a with wt := false }), alI B b, waI B b, goI B b] ++ [olS w sg c o A B a b]) := by
 have H0 := HS.beginI
 refine enter 6 Try.func47 rfl rfl rfl ?_
 refine g_weak [(0, .agg #[.pointer (some ⟨sg, 0, none⟩), .int .i64 (m.kind), .int .i64 (m.i1), .int .i64 (m.i2), .int .i64 (m.i3), .int .i64 (m.i4), .int .i64 (m.i5), .string (m.root), .string (m.data), .pointer (some ⟨sg, offO o, none⟩), .pointer (some ⟨sg, offP o, none⟩)])] ⟨rfl, trivial⟩ ?_
 refine w_s ?_
 refine l_of (s_box H0 (wt0 rfl) rfl rfl rfl rfl ?_)
 intro g1 wq2 H3
 refine w_e ?_
 refine g_region ?_
 refine w_f 9 ?_
 refine w_1 H3 0 ?_
 refine w_v xn ?_
 refine w_f (offO o + 2) ?_
 refine l_of (s_store1 H3 1 (wt0 rfl) rfl rfl rfl rfl rfl sz4 rfl rfl (sgC_ol rfl rfl (by decide)) ?_)
 intro wq4 H5
 rw [sgC_so rfl rfl (by decide)] at H5
 replace H5 : S wq4 [ddI g1 sg o m, Ob sg (.cells (sgC o c [.bool a.bg, .bool a.ck, .bool false, .string (a.fd), .slice A.pa a.al.length A.ca, .slice A.pw a.wa.length A.cw, .map (some A.mg)] [.bool b.bg, .bool b.ck, .bool b.wt, .string (b.fd), .slice B.pa b.al.length B.ca, .slice B.pw b.wa.length B.cw, .map (some B.mg)]) 57 (0, 0)), alI A a, waI A a, goI A a, alI B b, waI B b, goI B b, olS w sg c o A B a b] := H5
 refine g_nil ?_
 refine fin_end [] [] rfl trivial ?_
 exact ⟨rfl, H5.takes [1, 2, 3, 4, 5, 6, 7, 8] (by decide)⟩
end Go.Proofs.Ytdkfkdekiljcoaa
