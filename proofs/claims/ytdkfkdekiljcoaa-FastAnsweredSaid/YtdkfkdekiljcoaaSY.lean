import Derived.Test.YtdkfkdekiljcoaaSX
set_option linter.unusedSimpArgs false
set_option linter.unusedVariables false
namespace Go.Proofs.Ytdkfkdekiljcoaa
open Go.RowKit

theorem cl49 : callable Try.prog 49 = true := by kernel_rfl
theorem cl52 : callable Try.prog 52 = true := by kernel_rfl
theorem cl74 : callable Try.prog 74 = true := by kernel_rfl
def Wy.have (a : Wy) (i : Int) : Wy := { a with fd := setB a.fd i.toNat }
def Wy.ask (a : Wy) (x : Ch) : Wy := { a with wa := a.wa ++ [x] }
theorem has_bitsI (n : Int) (s : ByteArray) (i : Int) (hn : 0 ≤ n ∧ n ≤ 4096) (hV : Vf n.toNat s) (w : World) : Calls Try.prog 74 #[.int .i64 n, .string s, .int .i64 i] w fun e w' => e = .returned (.tuple #[.bool (hasB n.toNat s i), .int .i64 (hasE n.toNat i)]) ∧ S w' [Old w no] := by
  have h := has_bits n.toNat s i (by omega) hV w
  rw [show ((n.toNat : Nat) : Int) = n from by omega] at h
  exact h
theorem set_bitsI (n : Int) (s : ByteArray) (i : Int) (hn : 0 ≤ n ∧ n ≤ 4096) (hV : Vf n.toNat s) (hi : 0 ≤ i ∧ i < n) (w : World) : Calls Try.prog 49 #[.int .i64 n, .string s, .int .i64 i, .bool true] w fun e w' => e = .returned (.tuple #[.string (setB s i.toNat), .int .i64 0]) ∧ S w' [Old w no] := by
  have h := set_bits n.toNat s i (by omega) hV (by omega) w
  rw [show ((n.toNat : Nat) : Int) = n from by omega] at h
  exact h
set_option maxRecDepth 20000 in
set_option maxHeartbeats 4000000 in
theorem hasd_oo (sg : Nat) (c : Co) (o : Bool) (A B : Ad) (a b : Wy) (m : M) (i : Int) (hn : 0 ≤ c.n ∧ c.n ≤ 4096) (hV : Vf c.n.toNat a.fd) (w : World) (HS : S w [sgI sg c o A B a b, alI A a, waI A a, goI A a, alI B b, waI B b, goI B b]) : Calls Try.prog 52 #[.agg #[.pointer (some ⟨sg, 0, none⟩), .int .i64 (m.kind), .int .i64 (m.i1), .int .i64 (m.i2), .int .i64 (m.i3), .int .i64 (m.i4), .int .i64 (m.i5), .string (m.root), .string (m.data), .pointer (some ⟨sg, offO o, none⟩), .pointer (some ⟨sg, offP o, none⟩)], .pointer (some ⟨sg, offO o, none⟩), .int .i64 i] w fun e w' => e = .returned (.bool (hasB c.n.toNat a.fd i)) ∧ S w' ([sgI sg c o A B a b, alI A a, waI A a, goI A a, alI B b, waI B b, goI B b] ++ [olS w sg c o A B a b]) := by
 have H0 := HS.beginI
 refine enter 25 Try.func52 rfl rfl rfl ?_
 refine g_weak [(0, .agg #[.pointer (some ⟨sg, 0, none⟩), .int .i64 (m.kind), .int .i64 (m.i1), .int .i64 (m.i2), .int .i64 (m.i3), .int .i64 (m.i4), .int .i64 (m.i5), .string (m.root), .string (m.data), .pointer (some ⟨sg, offO o, none⟩), .pointer (some ⟨sg, offP o, none⟩)]), (1, .pointer (some ⟨sg, offO o, none⟩)), (2, .int .i64 i)] ⟨rfl, rfl, rfl, trivial⟩ ?_
 refine w_s ?_
 refine l_of (s_box H0 (wt0 rfl) rfl rfl rfl rfl ?_)
 intro g1 wq2 H3
 refine w_a ?_
 refine w_e ?_
 refine g_seq ?_
 refine g_any [] (fun wx => S wx [ddI g1 sg o m, sgI sg c o A B a b]) [] (by kernel_rfl) H3 (fun wq4 H5 => ?_)
 have cm1 := H5.mask [true, true, false, false, false, false, false, false, false]
 refine w_t 0 rfl cm1 (fun _ _ => xf 0) ?_
 refine w_t 1 rfl cm1 (fun _ H => xl H 0) ?_
 refine w_t 2 rfl cm1 (fun _ _ => xn) ?_
 refine w_t 3 rfl cm1 (fun _ _ => xf 0) ?_
 refine w_t 4 rfl cm1 (fun _ _ => xf 0) ?_
 refine w_t 5 rfl cm1 (fun _ H => x_load1 H 1 rfl rfl Try.underlying3 rfl rfl (sgC_c rfl)) ?_
 refine w_t 6 rfl cm1 (fun _ _ => xm) ?_
 refine w_t 7 rfl cm1 (fun _ _ => xn) ?_
 refine w_t 8 rfl cm1 (fun _ _ => xf (offO o + 3)) ?_
 refine w_t 9 rfl cm1 (fun _ H => x_load1 H 1 rfl rfl Try.underlying9 rfl rfl (sgC_o rfl rfl rfl)) ?_
 refine w_t 10 rfl cm1 (fun _ _ => xm) ?_
 refine a_one (i := 11) (by kernel_rfl) rfl ?_
 refine s_call0 H5 (wt0 rfl) (x_call' rfl rfl cl74) (has_bitsI c.n a.fd i hn hV _) rfl rfl ?_
 intro wq6 H7
 have cm2 := H7.mask [true, true, false, false, false, false, false, false, false]
 refine a_k cm2 ?_
 refine w_t 12 rfl cm2 (fun _ _ => xm) ?_
 refine w_t 13 rfl cm2 (fun _ _ => xe) ?_
 refine w_t 14 rfl cm2 (fun _ _ => xe) ?_
 refine w_t 15 rfl cm2 (fun _ _ => xa) ?_
 refine w_t 16 rfl cm2 (fun _ _ => xa) ?_
 refine a_done (by kernel_rfl) ?_
 refine g_then ?_
 refine g_weak [(7, .bool ((hasB c.n.toNat a.fd i)))] ⟨rfl, trivial⟩ ?_
 refine w_s ?_
 refine w_r2 ?_
 refine w_e ?_
 refine g_ret ?_
 refine fin_ret [.tmp 6] [.bool ((hasB c.n.toNat a.fd i))] rfl ⟨rfl, trivial⟩ ?_
 exact ⟨rfl, H7.takes [1, 2, 3, 4, 5, 6, 7, 8] (by decide)⟩
set_option maxRecDepth 20000 in
set_option maxHeartbeats 4000000 in
theorem hasd_op (sg : Nat) (c : Co) (o : Bool) (A B : Ad) (a b : Wy) (m : M) (i : Int) (hn : 0 ≤ c.n ∧ c.n ≤ 4096) (hV : Vf c.n.toNat b.fd) (w : World) (HS : S w [sgI sg c o A B a b, alI A a, waI A a, goI A a, alI B b, waI B b, goI B b]) : Calls Try.prog 52 #[.agg #[.pointer (some ⟨sg, 0, none⟩), .int .i64 (m.kind), .int .i64 (m.i1), .int .i64 (m.i2), .int .i64 (m.i3), .int .i64 (m.i4), .int .i64 (m.i5), .string (m.root), .string (m.data), .pointer (some ⟨sg, offO o, none⟩), .pointer (some ⟨sg, offP o, none⟩)], .pointer (some ⟨sg, offP o, none⟩), .int .i64 i] w fun e w' => e = .returned (.bool (hasB c.n.toNat b.fd i)) ∧ S w' ([sgI sg c o A B a b, alI A a, waI A a, goI A a, alI B b, waI B b, goI B b] ++ [olS w sg c o A B a b]) := by
 have H0 := HS.beginI
 refine enter 25 Try.func52 rfl rfl rfl ?_
 refine g_weak [(0, .agg #[.pointer (some ⟨sg, 0, none⟩), .int .i64 (m.kind), .int .i64 (m.i1), .int .i64 (m.i2), .int .i64 (m.i3), .int .i64 (m.i4), .int .i64 (m.i5), .string (m.root), .string (m.data), .pointer (some ⟨sg, offO o, none⟩), .pointer (some ⟨sg, offP o, none⟩)]), (1, .pointer (some ⟨sg, offP o, none⟩)), (2, .int .i64 i)] ⟨rfl, rfl, rfl, trivial⟩ ?_
 refine w_s ?_
 refine l_of (s_box H0 (wt0 rfl) rfl rfl rfl rfl ?_)
 intro g1 wq2 H3
 refine w_a ?_
 refine w_e ?_
 refine g_seq ?_
 refine g_any [] (fun wx => S wx [ddI g1 sg o m, sgI sg c o A B a b]) [] (by kernel_rfl) H3 (fun wq4 H5 => ?_)
 have cm3 := H5.mask [true, true, false, false, false, false, false, false, false]
 refine w_t 0 rfl cm3 (fun _ _ => xf 0) ?_
 refine w_t 1 rfl cm3 (fun _ H => xl H 0) ?_
 refine w_t 2 rfl cm3 (fun _ _ => xn) ?_
 refine w_t 3 rfl cm3 (fun _ _ => xf 0) ?_
 refine w_t 4 rfl cm3 (fun _ _ => xf 0) ?_
 refine w_t 5 rfl cm3 (fun _ H => x_load1 H 1 rfl rfl Try.underlying3 rfl rfl (sgC_c rfl)) ?_
 refine w_t 6 rfl cm3 (fun _ _ => xm) ?_
 refine w_t 7 rfl cm3 (fun _ _ => xn) ?_
 refine w_t 8 rfl cm3 (fun _ _ => xf (offP o + 3)) ?_
 refine w_t 9 rfl cm3 (fun _ H => x_load1 H 1 rfl rfl Try.underlying9 rfl rfl (sgC_p rfl rfl rfl)) ?_
 refine w_t 10 rfl cm3 (fun _ _ => xm) ?_
 refine a_one (i := 11) (by kernel_rfl) rfl ?_
 refine s_call0 H5 (wt0 rfl) (x_call' rfl rfl cl74) (has_bitsI c.n b.fd i hn hV _) rfl rfl ?_
 intro wq6 H7
 have cm4 := H7.mask [true, true, false, false, false, false, false, false, false]
 refine a_k cm4 ?_
 refine w_t 12 rfl cm4 (fun _ _ => xm) ?_
 refine w_t 13 rfl cm4 (fun _ _ => xe) ?_
 refine w_t 14 rfl cm4 (fun _ _ => xe) ?_
 refine w_t 15 rfl cm4 (fun _ _ => xa) ?_
 refine w_t 16 rfl cm4 (fun _ _ => xa) ?_
 refine a_done (by kernel_rfl) ?_
 refine g_then ?_
 refine g_weak [(7, .bool ((hasB c.n.toNat b.fd i)))] ⟨rfl, trivial⟩ ?_
 refine w_s ?_
 refine w_r2 ?_
 refine w_e ?_
 refine g_ret ?_
 refine fin_ret [.tmp 6] [.bool ((hasB c.n.toNat b.fd i))] rfl ⟨rfl, trivial⟩ ?_
 exact ⟨rfl, H7.takes [1, 2, 3, 4, 5, 6, 7, 8] (by decide)⟩
set_option maxRecDepth 20000 in
set_option maxHeartbeats 4000000 in
theorem have_o (sg : Nat) (c : Co) (o : Bool) (A B : Ad) (a b : Wy) (m : M) (hn : 0 ≤ c.n ∧ c.n ≤ 4096) (hV : Vf c.n.toNat a.fd) (hi : 0 ≤ m.i1 ∧ m.i1 < c.n) (w : World) (HS : S w [sgI sg c o A B a b, alI A a, waI A a, goI A a, alI B b, waI B b, goI B b]) : Calls Try.prog 48 #[.agg #[.pointer (some ⟨sg, 0, none⟩), .int .i64 (m.kind), .int .i64 (m.i1), .int .i64 (m.i2), .int .i64 (m.i3), .int .i64 (m.i4), .int .i64 (m.i5), .string (m.root), .string (m.data), .pointer (some ⟨sg, offO o, none⟩), .pointer (some ⟨sg, offP o, none⟩)]] w fun e w' => e = .returned (.tuple #[]) ∧ S w' ([sgI sg c o A B (a.have m.i1) b, alI A (a.have m.i1), waI A (a.have m.i1), goI A (a.have m.i1), alI B b, waI B b, goI B b] ++ [olS w sg c o A B a b]) := by
 have H0 := HS.beginI
 refine enter 24 Try.func48 rfl rfl rfl ?_
 refine g_weak [(0, .agg #[.pointer (some ⟨sg, 0, none⟩), .int .i64 (m.kind), .int .i64 (m.i1), .int .i64 (m.i2), .int .i64 (m.i3), .int .i64 (m.i4), .int .i64 (m.i5), .string (m.root), .string (m.data), .pointer (some ⟨sg, offO o, none⟩), .pointer (some ⟨sg, offP o, none⟩)])] ⟨rfl, trivial⟩ ?_
 refine w_s ?_
 refine l_of (s_box H0 (wt0 rfl) rfl rfl rfl rfl ?_)
 intro g1 wq2 H3
 refine w_e ?_
 refine g_anyY [(0, .agg #[.pointer (some ⟨sg, 0, none⟩), .int .i64 (m.kind), .int .i64 (m.i1), .int .i64 (m.i2), .int .i64 (m.i3), .int .i64 (m.i4), .int .i64 (m.i5), .string (m.root), .string (m.data), .pointer (some ⟨sg, offO o, none⟩), .pointer (some ⟨sg, offP o, none⟩)]), (1, .pointer (some ⟨g1, 0, none⟩))] (fun wx => S wx [ddI g1 sg o m, sgI sg c o A B a b]) (fun wx => S wx [ddI g1 sg o m]) [22] (by kernel_rfl) H3 (fun wq4 H5 => ?_)
 refine w_y 0 rfl (wt0 rfl) rfl rfl rfl (by kernel_rfl) (fun _ => x_fieldAddr (off' := 9) rfl rfl fo75_2 rfl) ?_
 have cm5 := H5.mask [true, true, false, false, false, false, false, false, false]
 refine y_take (v := .pointer (some ⟨sg, offO o, none⟩)) 1 rfl (wt0 rfl) rfl rfl rfl (by kernel_rfl) (by kernel_rfl) (by kernel_rfl) (by kernel_rfl) (by kernel_rfl) cm5 (fun wx H => x_load1 H 0 rfl rfl Try.underlying62 rfl rfl rfl) ?_
 refine w_y 2 rfl (wt0 rfl) rfl rfl rfl (by kernel_rfl) (fun _ => x_fieldAddr (off' := 0) rfl rfl fo75_0 rfl) ?_
 refine y_take (v := .pointer (some ⟨sg, 0, none⟩)) 3 rfl (wt0 rfl) rfl rfl rfl (by kernel_rfl) (by kernel_rfl) (by kernel_rfl) (by kernel_rfl) (by kernel_rfl) cm5 (fun wx H => x_load1 H 0 rfl rfl Try.underlying27 rfl rfl rfl) ?_
 refine w_y 4 rfl (wt0 rfl) rfl rfl rfl (by kernel_rfl) (fun _ => x_nilCheck rfl rfl) ?_
 refine w_y 5 rfl (wt0 rfl) rfl rfl rfl (by kernel_rfl) (fun _ => x_fieldAddr (off' := 0) rfl rfl fo57_0 rfl) ?_
 refine w_y 6 rfl (wt0 rfl) rfl rfl rfl (by kernel_rfl) (fun _ => x_fieldAddr (off' := 0) rfl rfl fo51_0 rfl) ?_
 refine y_take (v := .int .i64 (c.n)) 7 rfl (wt0 rfl) rfl rfl rfl (by kernel_rfl) (by kernel_rfl) (by kernel_rfl) (by kernel_rfl) (by kernel_rfl) cm5 (fun wx H => x_load1 H 1 rfl rfl Try.underlying3 rfl rfl (sgC_c rfl)) ?_
 refine w_y 8 rfl (wt0 rfl) rfl rfl rfl (by kernel_rfl) (fun _ => x_fieldAddr (off' := 9) rfl rfl fo75_2 rfl) ?_
 refine y_take (v := .pointer (some ⟨sg, offO o, none⟩)) 9 rfl (wt0 rfl) rfl rfl rfl (by kernel_rfl) (by kernel_rfl) (by kernel_rfl) (by kernel_rfl) (by kernel_rfl) cm5 (fun wx H => x_load1 H 0 rfl rfl Try.underlying62 rfl rfl rfl) ?_
 refine w_y 10 rfl (wt0 rfl) rfl rfl rfl (by kernel_rfl) (fun _ => x_nilCheck rfl rfl) ?_
 refine w_y 11 rfl (wt0 rfl) rfl rfl rfl (by kernel_rfl) (fun _ => x_fieldAddr (off' := offO o + 3) rfl rfl fo54_3 rfl) ?_
 refine y_take (v := .string (a.fd)) 12 rfl (wt0 rfl) rfl rfl rfl (by kernel_rfl) (by kernel_rfl) (by kernel_rfl) (by kernel_rfl) (by kernel_rfl) cm5 (fun wx H => x_load1 H 1 rfl rfl Try.underlying9 rfl rfl (sgC_o rfl rfl rfl)) ?_
 refine w_y 13 rfl (wt0 rfl) rfl rfl rfl (by kernel_rfl) (fun _ => x_fieldAddr (off' := 1) rfl rfl fo75_1 rfl) ?_
 refine w_y 14 rfl (wt0 rfl) rfl rfl rfl (by kernel_rfl) (fun _ => x_fieldAddr (off' := 2) rfl rfl fo33_1 rfl) ?_
 refine y_take (v := .int .i64 (m.i1)) 15 rfl (wt0 rfl) rfl rfl rfl (by kernel_rfl) (by kernel_rfl) (by kernel_rfl) (by kernel_rfl) (by kernel_rfl) cm5 (fun wx H => x_load1 H 0 rfl rfl Try.underlying3 rfl rfl rfl) ?_
 refine y_one (i := 16) (by kernel_rfl) rfl ?_
 refine s_call0 H5 (wt0 rfl) (x_call' rfl rfl cl49) (set_bitsI c.n a.fd m.i1 hn hV hi _) rfl rfl ?_
 intro wq6 H7
 have cm6 := H7.mask [true, true, false, false, false, false, false, false, false]
 refine y_k cm6 (H7.mask [true, false, false, false, false, false, false, false, false]) ?_
 refine w_y 17 rfl (wt0 rfl) rfl rfl rfl (by kernel_rfl) (fun _ => x_move rfl rfl) ?_
 refine w_y 18 rfl (wt0 rfl) rfl rfl rfl (by kernel_rfl) (fun _ => x_extract rfl rfl rfl) ?_
 refine w_y 19 rfl (wt0 rfl) rfl rfl rfl (by kernel_rfl) (fun _ => x_extract rfl rfl rfl) ?_
 refine w_y 20 rfl (wt0 rfl) rfl rfl rfl (by kernel_rfl) (fun _ => x_nilCheck rfl rfl) ?_
 refine w_y 21 rfl (wt0 rfl) rfl rfl rfl (by kernel_rfl) (fun _ => x_fieldAddr (off' := offO o + 3) rfl rfl fo54_3 rfl) ?_
 refine y_one (i := 22) (by kernel_rfl) rfl ?_
 refine s_store1 H7 1 (wt0 rfl) rfl rfl rfl rfl rfl sz9 rfl rfl (sgC_ol rfl rfl (by decide)) ?_
 intro wq8 H9
 rw [sgC_so rfl rfl (by decide)] at H9
 replace H9 : S wq8 [ddI g1 sg o m, Ob sg (.cells (sgC o c [.bool a.bg, .bool a.ck, .bool a.wt, .string ((setB a.fd m.i1.toNat)), .slice A.pa a.al.length A.ca, .slice A.pw a.wa.length A.cw, .map (some A.mg)] [.bool b.bg, .bool b.ck, .bool b.wt, .string (b.fd), .slice B.pa b.al.length B.ca, .slice B.pw b.wa.length B.cw, .map (some B.mg)]) 57 (0, 0)), alI A a, waI A a, goI A a, alI B b, waI B b, goI B b, olS w sg c o A B a b] := H9
 refine y_kt rfl (H9.mask [true, false, false, false, false, false, false, false, false]) ?_
 refine y_done (by kernel_rfl) ?_
 refine fin_end [] [] rfl trivial ?_
 exact ⟨rfl, H9.takes [1, 2, 3, 4, 5, 6, 7, 8] (by decide)⟩
set_option maxRecDepth 20000 in
set_option maxHeartbeats 4000000 in
theorem suggest_o (sg : Nat) (c : Co) (o : Bool) (A B : Ad) (a b : Wy) (m : M) (hn : 0 ≤ c.n ∧ c.n ≤ 4096) (hV : Vf c.n.toNat a.fd) (hq : hasB c.n.toNat a.fd (m.i1) = true) (w : World) (HS : S w [sgI sg c o A B a b, alI A a, waI A a, goI A a, alI B b, waI B b, goI B b]) : Calls Try.prog 58 #[.agg #[.pointer (some ⟨sg, 0, none⟩), .int .i64 (m.kind), .int .i64 (m.i1), .int .i64 (m.i2), .int .i64 (m.i3), .int .i64 (m.i4), .int .i64 (m.i5), .string (m.root), .string (m.data), .pointer (some ⟨sg, offO o, none⟩), .pointer (some ⟨sg, offP o, none⟩)]] w fun e w' => e = .returned (.tuple #[]) ∧ S w' ([sgI sg c o A B a b, alI A a, waI A a, goI A a, alI B b, waI B b, goI B b] ++ [olS w sg c o A B a b]) := by
 have H0 := HS.beginI
 refine enter 10 Try.func58 rfl rfl rfl ?_
 refine g_weak [(0, .agg #[.pointer (some ⟨sg, 0, none⟩), .int .i64 (m.kind), .int .i64 (m.i1), .int .i64 (m.i2), .int .i64 (m.i3), .int .i64 (m.i4), .int .i64 (m.i5), .string (m.root), .string (m.data), .pointer (some ⟨sg, offO o, none⟩), .pointer (some ⟨sg, offP o, none⟩)])] ⟨rfl, trivial⟩ ?_
 refine w_s ?_
 refine l_of (s_box H0 (wt0 rfl) rfl rfl rfl rfl ?_)
 intro g1 wq2 H3
 refine w_e ?_
 refine g_region ?_
 refine w_v (v := .agg #[.pointer (some ⟨sg, 0, none⟩), .int .i64 (m.kind), .int .i64 (m.i1), .int .i64 (m.i2), .int .i64 (m.i3), .int .i64 (m.i4), .int .i64 (m.i5), .string (m.root), .string (m.data), .pointer (some ⟨sg, offO o, none⟩), .pointer (some ⟨sg, offP o, none⟩)]) (x_loadA H3 0 rfl rfl Try.underlying75 rfl sz75 rfl rfl rfl) ?_
 refine w_f 9 ?_
 refine w_1 H3 0 ?_
 refine w_r2 ?_
 refine w_1 H3 0 ?_
 refine l_of (s_call (wt0 rfl) (x_call' rfl rfl cl52) (hasd_oo sg c o A B a b m (m.i1) hn hV _ (H3.takes [1, 2, 3, 4, 5, 6, 7] (by decide))) ?_)
 rintro _ wq4 ⟨rfl, H5⟩
 replace H5 : S wq4 [sgI sg c o A B a b, alI A a, waI A a, goI A a, alI B b, waI B b, goI B b, ddI g1 sg o m, olS w sg c o A B a b] := by have h := H3.absorbI [1, 2, 3, 4, 5, 6, 7] H5; exact h
 refine b_ret rfl rfl ?_
 have hnd6 := need_bt hq 9 wq4
 refine l_of (s_call0 H5 (wt0 rfl) (x_call' rfl rfl cl31) (hnd6) rfl rfl ?_)
 intro wq7 H8
 refine g_nil ?_
 refine fin_end [] [] rfl trivial ?_
 exact ⟨rfl, H8.takes [0, 1, 2, 3, 4, 5, 6, 8] (by decide)⟩
set_option maxRecDepth 20000 in
set_option maxHeartbeats 4000000 in
theorem suggestN_o (sg : Nat) (c : Co) (o : Bool) (A B : Ad) (a b : Wy) (m : M) (hn : 0 ≤ c.n ∧ c.n ≤ 4096) (hV : Vf c.n.toNat a.fd) (hq : hasB c.n.toNat a.fd (m.i1) = false) (w : World) (HS : S w [sgI sg c o A B a b, alI A a, waI A a, goI A a, alI B b, waI B b, goI B b]) : Calls Try.prog 58 #[.agg #[.pointer (some ⟨sg, 0, none⟩), .int .i64 (m.kind), .int .i64 (m.i1), .int .i64 (m.i2), .int .i64 (m.i3), .int .i64 (m.i4), .int .i64 (m.i5), .string (m.root), .string (m.data), .pointer (some ⟨sg, offO o, none⟩), .pointer (some ⟨sg, offP o, none⟩)]] w fun e w' => e = .panicked [{ v := .iface 72 (.int .i64 9), recovered := false }] ∧ S w' ([sgI sg c o A B a b, alI A a, waI A a, goI A a, alI B b, waI B b, goI B b] ++ [olS w sg c o A B a b]) := by
 have H0 := HS.beginI
 refine enter 10 Try.func58 rfl rfl rfl ?_
 refine g_weak [(0, .agg #[.pointer (some ⟨sg, 0, none⟩), .int .i64 (m.kind), .int .i64 (m.i1), .int .i64 (m.i2), .int .i64 (m.i3), .int .i64 (m.i4), .int .i64 (m.i5), .string (m.root), .string (m.data), .pointer (some ⟨sg, offO o, none⟩), .pointer (some ⟨sg, offP o, none⟩)])] ⟨rfl, trivial⟩ ?_
 refine w_s ?_
 refine l_of (s_box H0 (wt0 rfl) rfl rfl rfl rfl ?_)
 intro g1 wq2 H3
 refine w_e ?_
 refine g_region ?_
 refine w_v (v := .agg #[.pointer (some ⟨sg, 0, none⟩), .int .i64 (m.kind), .int .i64 (m.i1), .int .i64 (m.i2), .int .i64 (m.i3), .int .i64 (m.i4), .int .i64 (m.i5), .string (m.root), .string (m.data), .pointer (some ⟨sg, offO o, none⟩), .pointer (some ⟨sg, offP o, none⟩)]) (x_loadA H3 0 rfl rfl Try.underlying75 rfl sz75 rfl rfl rfl) ?_
 refine w_f 9 ?_
 refine w_1 H3 0 ?_
 refine w_r2 ?_
 refine w_1 H3 0 ?_
 refine l_of (s_call (wt0 rfl) (x_call' rfl rfl cl52) (hasd_oo sg c o A B a b m (m.i1) hn hV _ (H3.takes [1, 2, 3, 4, 5, 6, 7] (by decide))) ?_)
 rintro _ wq4 ⟨rfl, H5⟩
 replace H5 : S wq4 [sgI sg c o A B a b, alI A a, waI A a, goI A a, alI B b, waI B b, goI B b, ddI g1 sg o m, olS w sg c o A B a b] := by have h := H3.absorbI [1, 2, 3, 4, 5, 6, 7] H5; exact h
 refine b_ret rfl rfl ?_
 have hnd6 := need_bf hq 9 wq4
 refine l_of (s_call (wt0 rfl) (x_call' rfl rfl cl31) (hnd6) ?_)
 rintro _ wq7 ⟨rfl, H8⟩
 replace H8 : S wq7 [sgI sg c o A B a b, alI A a, waI A a, goI A a, alI B b, waI B b, goI B b, ddI g1 sg o m, olS w sg c o A B a b] := H5.absorb (new := []) H8
 refine b_panic ?_
 refine fin_panic ?_
 exact ⟨rfl, H8.takes [0, 1, 2, 3, 4, 5, 6, 8] (by decide)⟩
end Go.Proofs.Ytdkfkdekiljcoaa
