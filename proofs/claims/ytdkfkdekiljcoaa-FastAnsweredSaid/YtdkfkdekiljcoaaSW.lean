import Derived.Test.YtdkfkdekiljcoaaSV
set_option linter.unusedSimpArgs false
set_option linter.unusedVariables false
namespace Go.Proofs.Ytdkfkdekiljcoaa
open Go.RowKit

theorem cl43 : callable Try.prog 43 = true := by kernel_rfl
theorem fo51_0 : foO Try.prog 51 0 = some 0 := by kernel_rfl
theorem sz9 : szO Try.prog 9 = some 1 := by kernel_rfl
set_option maxRecDepth 20000 in
set_option maxHeartbeats 4000000 in
theorem fieldR_o (sg : Nat) (c : Co) (o : Bool) (A B : Ad) (a b : Wy) (m : M) (w : World) (HS : S w [sgI sg c o A B a b, alI A a, waI A a, goI A a, alI B b, waI B b, goI B b]) : Calls Try.prog 42 #[.agg #[.pointer (some ⟨sg, 0, none⟩), .int .i64 (m.kind), .int .i64 (m.i1), .int .i64 (m.i2), .int .i64 (m.i3), .int .i64 (m.i4), .int .i64 (m.i5), .string (m.root), .string (m.data), .pointer (some ⟨sg, offO o, none⟩), .pointer (some ⟨sg, offP o, none⟩)]] w fun e w' => e = .returned (.tuple #[]) ∧ S w' ([sgI sg c o A B ({ a with fd := (fieldMS c.n m).1 }) b, alI A ({ a with fd := (fieldMS c.n m).1 }), waI A ({ a with fd := (fieldMS c.n m).1 }), goI A ({ a with fd := (fieldMS c.n m).1 }), alI B b, waI B b, goI B b] ++ [olS w sg c o A B a b]) := by
 have H0 := HS.beginI
 refine enter 18 Try.func42 rfl rfl rfl ?_
 refine g_weak [(0, .agg #[.pointer (some ⟨sg, 0, none⟩), .int .i64 (m.kind), .int .i64 (m.i1), .int .i64 (m.i2), .int .i64 (m.i3), .int .i64 (m.i4), .int .i64 (m.i5), .string (m.root), .string (m.data), .pointer (some ⟨sg, offO o, none⟩), .pointer (some ⟨sg, offP o, none⟩)])] ⟨rfl, trivial⟩ ?_
 refine w_s ?_
 refine l_of (s_box H0 (wt0 rfl) rfl rfl rfl rfl ?_)
 intro g1 wq2 H3
 refine w_e ?_
 refine g_anyY [(0, .agg #[.pointer (some ⟨sg, 0, none⟩), .int .i64 (m.kind), .int .i64 (m.i1), .int .i64 (m.i2), .int .i64 (m.i3), .int .i64 (m.i4), .int .i64 (m.i5), .string (m.root), .string (m.data), .pointer (some ⟨sg, offO o, none⟩), .pointer (some ⟨sg, offP o, none⟩)]), (1, .pointer (some ⟨g1, 0, none⟩))] (fun wx => S wx [ddI g1 sg o m, sgI sg c o A B a b]) (fun wx => S wx [ddI g1 sg o m]) [16] (by kernel_rfl) H3 (fun wq4 H5 => ?_)
 refine w_y 0 rfl (wt0 rfl) rfl rfl rfl (by kernel_rfl) (fun _ => x_fieldAddr (off' := 9) rfl rfl fo75_2 rfl) ?_
 have cm1 := H5.mask [true, true, false, false, false, false, false, false, false]
 refine y_take (v := .pointer (some ⟨sg, offO o, none⟩)) 1 rfl (wt0 rfl) rfl rfl rfl (by kernel_rfl) (by kernel_rfl) (by kernel_rfl) (by kernel_rfl) (by kernel_rfl) cm1 (fun wx H => x_load1 H 0 rfl rfl Try.underlying62 rfl rfl rfl) ?_
 refine w_y 2 rfl (wt0 rfl) rfl rfl rfl (by kernel_rfl) (fun _ => x_fieldAddr (off' := 0) rfl rfl fo75_0 rfl) ?_
 refine y_take (v := .pointer (some ⟨sg, 0, none⟩)) 3 rfl (wt0 rfl) rfl rfl rfl (by kernel_rfl) (by kernel_rfl) (by kernel_rfl) (by kernel_rfl) (by kernel_rfl) cm1 (fun wx H => x_load1 H 0 rfl rfl Try.underlying27 rfl rfl rfl) ?_
 refine w_y 4 rfl (wt0 rfl) rfl rfl rfl (by kernel_rfl) (fun _ => x_nilCheck rfl rfl) ?_
 refine w_y 5 rfl (wt0 rfl) rfl rfl rfl (by kernel_rfl) (fun _ => x_fieldAddr (off' := 0) rfl rfl fo57_0 rfl) ?_
 refine w_y 6 rfl (wt0 rfl) rfl rfl rfl (by kernel_rfl) (fun _ => x_fieldAddr (off' := 0) rfl rfl fo51_0 rfl) ?_
 refine y_take (v := .int .i64 (c.n)) 7 rfl (wt0 rfl) rfl rfl rfl (by kernel_rfl) (by kernel_rfl) (by kernel_rfl) (by kernel_rfl) (by kernel_rfl) cm1 (fun wx H => x_load1 H 1 rfl rfl Try.underlying3 rfl rfl (sgC_c rfl)) ?_
 refine w_y 8 rfl (wt0 rfl) rfl rfl rfl (by kernel_rfl) (fun _ => x_fieldAddr (off' := 1) rfl rfl fo75_1 rfl) ?_
 refine y_take (v := .agg m.cells) 9 rfl (wt0 rfl) rfl rfl rfl (by kernel_rfl) (by kernel_rfl) (by kernel_rfl) (by kernel_rfl) (by kernel_rfl) cm1 (fun wx H => x_loadA H 0 rfl rfl Try.underlying33 rfl sz33 rfl rfl rfl) ?_
 refine y_one (i := 10) (by kernel_rfl) rfl ?_
 refine s_call0 H5 (wt0 rfl) (x_call' rfl rfl cl43) (field_w c.n m _) rfl rfl ?_
 intro wq6 H7
 refine y_k (H7.mask [true, true, false, false, false, false, false, false, false]) (H7.mask [true, false, false, false, false, false, false, false, false]) ?_
 refine w_y 11 rfl (wt0 rfl) rfl rfl rfl (by kernel_rfl) (fun _ => x_move rfl rfl) ?_
 refine w_y 12 rfl (wt0 rfl) rfl rfl rfl (by kernel_rfl) (fun _ => x_extract rfl rfl rfl) ?_
 refine w_y 13 rfl (wt0 rfl) rfl rfl rfl (by kernel_rfl) (fun _ => x_extract rfl rfl rfl) ?_
 refine w_y 14 rfl (wt0 rfl) rfl rfl rfl (by kernel_rfl) (fun _ => x_nilCheck rfl rfl) ?_
 refine w_y 15 rfl (wt0 rfl) rfl rfl rfl (by kernel_rfl) (fun _ => x_fieldAddr (off' := offO o + 3) rfl rfl fo54_3 rfl) ?_
 refine y_one (i := 16) (by kernel_rfl) rfl ?_
 refine s_store1 H7 1 (wt0 rfl) rfl rfl rfl rfl rfl sz9 rfl rfl (sgC_ol rfl rfl (by decide)) ?_
 intro wq8 H9
 rw [sgC_so rfl rfl (by decide)] at H9
 replace H9 : S wq8 [ddI g1 sg o m, Ob sg (.cells (sgC o c [.bool a.bg, .bool a.ck, .bool a.wt, .string ((fieldMS c.n m).1), .slice A.pa a.al.length A.ca, .slice A.pw a.wa.length A.cw, .map (some A.mg)] [.bool b.bg, .bool b.ck, .bool b.wt, .string (b.fd), .slice B.pa b.al.length B.ca, .slice B.pw b.wa.length B.cw, .map (some B.mg)]) 57 (0, 0)), alI A a, waI A a, goI A a, alI B b, waI B b, goI B b, olS w sg c o A B a b] := H9
 refine y_kt rfl (H9.mask [true, false, false, false, false, false, false, false, false]) ?_
 refine y_done (by kernel_rfl) ?_
 refine fin_end [] [] rfl trivial ?_
 exact ⟨rfl, H9.takes [1, 2, 3, 4, 5, 6, 7, 8] (by decide)⟩
end Go.Proofs.Ytdkfkdekiljcoaa
