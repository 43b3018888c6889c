import Derived.Test.YtdkfkdekiljcoaaST
set_option linter.unusedSimpArgs false
set_option linter.unusedVariables false
namespace Go.Proofs.Ytdkfkdekiljcoaa
open Go.RowKit

theorem sz45 : szO Try.prog 45 = some 1 := by kernel_rfl
def Wy.allow (a : Wy) (i : Int) : Wy := { a with al := a.al ++ [i] }
theorem zV_app (l : List Int) (i : Int) : zV (l ++ [i]) = zV l ++ [.int .i64 i] := by unfold zV; simp
set_option maxRecDepth 20000 in
set_option maxHeartbeats 4000000 in
theorem allowN_o (sg : Nat) (c : Co) (o : Bool) (A B : Ad) (a b : Wy) (m : M) (hal : a.al.length ≤ 1099511627776) (hq : inB a.al m.i1 = true) (w : World) (HS : S w [sgI sg c o A B a b, alI A a, waI A a, goI A a, alI B b, waI B b, goI B b]) : Calls Try.prog 59 #[.agg #[.pointer (some ⟨sg, 0, none⟩), .int .i64 (m.kind), .int .i64 (m.i1), .int .i64 (m.i2), .int .i64 (m.i3), .int .i64 (m.i4), .int .i64 (m.i5), .string (m.root), .string (m.data), .pointer (some ⟨sg, offO o, none⟩), .pointer (some ⟨sg, offP o, none⟩)]] w fun e w' => e = .returned (.tuple #[]) ∧ S w' ([sgI sg c o A B a b, alI A a, waI A a, goI A a, alI B b, waI B b, goI B b] ++ [olS w sg c o A B a b]) := by
 have H0 := HS.beginI
 refine enter 27 Try.func59 rfl rfl rfl ?_
 refine g_weak [(0, .agg #[.pointer (some ⟨sg, 0, none⟩), .int .i64 (m.kind), .int .i64 (m.i1), .int .i64 (m.i2), .int .i64 (m.i3), .int .i64 (m.i4), .int .i64 (m.i5), .string (m.root), .string (m.data), .pointer (some ⟨sg, offO o, none⟩), .pointer (some ⟨sg, offP o, none⟩)])] ⟨rfl, trivial⟩ ?_
 refine w_s ?_
 refine l_of (s_box H0 (wt0 rfl) rfl rfl rfl rfl ?_)
 intro g1 wq2 H3
 refine w_e ?_
 refine g_seq ?_
 refine g_any [(0, .agg #[.pointer (some ⟨sg, 0, none⟩), .int .i64 (m.kind), .int .i64 (m.i1), .int .i64 (m.i2), .int .i64 (m.i3), .int .i64 (m.i4), .int .i64 (m.i5), .string (m.root), .string (m.data), .pointer (some ⟨sg, offO o, none⟩), .pointer (some ⟨sg, offP o, none⟩)]), (1, .pointer (some ⟨g1, 0, none⟩))] (fun wx => S wx [ddI g1 sg o m, sgI sg c o A B a b]) [] (by kernel_rfl) H3 (fun wq4 H5 => ?_)
 have cm1 := H5.mask [true, true, false, false, false, false, false, false, false]
 refine w_t 0 rfl cm1 (fun _ _ => xf 9) ?_
 refine w_t 1 rfl cm1 (fun _ H => xl H 0) ?_
 refine w_t 2 rfl cm1 (fun _ _ => xn) ?_
 refine w_t 3 rfl cm1 (fun _ _ => xf (offO o + 4)) ?_
 refine w_t 4 rfl cm1 (fun _ H => x_load1 H 1 rfl rfl Try.underlying45 rfl rfl (sgC_o rfl rfl rfl)) ?_
 refine w_t 5 rfl cm1 (fun _ _ => xf 1) ?_
 refine w_t 6 rfl cm1 (fun _ _ => xf 2) ?_
 refine w_t 7 rfl cm1 (fun _ H => xl H 0) ?_
 refine a_one (i := 8) (by kernel_rfl) rfl ?_
 refine s_call0 H5 (wt0 rfl) (x_call' rfl rfl cl37) (contains_i a.al A.pa A.ca m.i1 (by omega) _ (H5.rwReads (k := 2) rfl)) rfl rfl ?_
 intro wq6 H7
 have cm2 := H7.mask [true, true, false, false, false, false, false, false, false]
 refine a_k cm2 ?_
 refine w_t (v := .bool (!((inB a.al m.i1)))) 9 rfl cm2 (fun _ _ => x_not (b := (inB a.al m.i1)) rfl rfl) ?_
 refine a_done (by kernel_rfl) ?_
 refine g_then ?_
 refine g_cond_f rfl (neg_of hq) ?_
 refine g_skip ?_
 refine fin_end [] [] rfl trivial ?_
 exact ⟨rfl, H7.takes [1, 2, 3, 4, 5, 6, 7, 8] (by decide)⟩
set_option maxRecDepth 20000 in
set_option maxHeartbeats 4000000 in
theorem allowY_o (sg : Nat) (c : Co) (o : Bool) (A B : Ad) (a b : Wy) (m : M) (hal : a.al.length ≤ 1099511627776) (hq : inB a.al m.i1 = false) (w : World) (HS : S w [sgI sg c o A B a b, alI A a, waI A a, goI A a, alI B b, waI B b, goI B b]) : Calls Try.prog 59 #[.agg #[.pointer (some ⟨sg, 0, none⟩), .int .i64 (m.kind), .int .i64 (m.i1), .int .i64 (m.i2), .int .i64 (m.i3), .int .i64 (m.i4), .int .i64 (m.i5), .string (m.root), .string (m.data), .pointer (some ⟨sg, offO o, none⟩), .pointer (some ⟨sg, offP o, none⟩)]] w fun e w' => ∃ A' : Ad, e = .returned (.tuple #[]) ∧ S w' ([sgI sg c o A' B (a.allow m.i1) b, alI A' (a.allow m.i1), waI A' (a.allow m.i1), goI A' (a.allow m.i1), alI B b, waI B b, goI B b] ++ [olS w sg c o A B a b]) := by
 have H0 := HS.beginI
 refine enter 27 Try.func59 rfl rfl rfl ?_
 refine g_weak [(0, .agg #[.pointer (some ⟨sg, 0, none⟩), .int .i64 (m.kind), .int .i64 (m.i1), .int .i64 (m.i2), .int .i64 (m.i3), .int .i64 (m.i4), .int .i64 (m.i5), .string (m.root), .string (m.data), .pointer (some ⟨sg, offO o, none⟩), .pointer (some ⟨sg, offP o, none⟩)])] ⟨rfl, trivial⟩ ?_
 refine w_s ?_
 refine l_of (s_box H0 (wt0 rfl) rfl rfl rfl rfl ?_)
 intro g1 wq2 H3
 refine w_e ?_
 refine g_seq ?_
 refine g_any [(0, .agg #[.pointer (some ⟨sg, 0, none⟩), .int .i64 (m.kind), .int .i64 (m.i1), .int .i64 (m.i2), .int .i64 (m.i3), .int .i64 (m.i4), .int .i64 (m.i5), .string (m.root), .string (m.data), .pointer (some ⟨sg, offO o, none⟩), .pointer (some ⟨sg, offP o, none⟩)]), (1, .pointer (some ⟨g1, 0, none⟩))] (fun wx => S wx [ddI g1 sg o m, sgI sg c o A B a b]) [] (by kernel_rfl) H3 (fun wq4 H5 => ?_)
 have cm3 := H5.mask [true, true, false, false, false, false, false, false, false]
 refine w_t 0 rfl cm3 (fun _ _ => xf 9) ?_
 refine w_t 1 rfl cm3 (fun _ H => xl H 0) ?_
 refine w_t 2 rfl cm3 (fun _ _ => xn) ?_
 refine w_t 3 rfl cm3 (fun _ _ => xf (offO o + 4)) ?_
 refine w_t 4 rfl cm3 (fun _ H => x_load1 H 1 rfl rfl Try.underlying45 rfl rfl (sgC_o rfl rfl rfl)) ?_
 refine w_t 5 rfl cm3 (fun _ _ => xf 1) ?_
 refine w_t 6 rfl cm3 (fun _ _ => xf 2) ?_
 refine w_t 7 rfl cm3 (fun _ H => xl H 0) ?_
 refine a_one (i := 8) (by kernel_rfl) rfl ?_
 refine s_call0 H5 (wt0 rfl) (x_call' rfl rfl cl37) (contains_i a.al A.pa A.ca m.i1 (by omega) _ (H5.rwReads (k := 2) rfl)) rfl rfl ?_
 intro wq6 H7
 have cm4 := H7.mask [true, true, false, false, false, false, false, false, false]
 refine a_k cm4 ?_
 refine w_t (v := .bool (!((inB a.al m.i1)))) 9 rfl cm4 (fun _ _ => x_not (b := (inB a.al m.i1)) rfl rfl) ?_
 refine a_done (by kernel_rfl) ?_
 refine g_then ?_
 refine g_cond_t rfl (neg_of hq) ?_
 refine g_any [(0, .agg #[.pointer (some ⟨sg, 0, none⟩), .int .i64 (m.kind), .int .i64 (m.i1), .int .i64 (m.i2), .int .i64 (m.i3), .int .i64 (m.i4), .int .i64 (m.i5), .string (m.root), .string (m.data), .pointer (some ⟨sg, offO o, none⟩), .pointer (some ⟨sg, offP o, none⟩)]), (1, .pointer (some ⟨g1, 0, none⟩)), (2, .pointer (some ⟨g1, 9, none⟩)), (3, .pointer (some ⟨sg, offO o, none⟩)), (4, .pointer (some ⟨sg, offO o, none⟩)), (5, .pointer (some ⟨sg, offO o + 4, none⟩)), (6, .slice A.pa a.al.length A.ca), (7, .pointer (some ⟨g1, 1, none⟩)), (8, .pointer (some ⟨g1, 2, none⟩)), (9, .int .i64 (m.i1)), (10, .bool ((inB a.al m.i1))), (11, .bool (!((inB a.al m.i1))))] (fun wx => S wx [ddI g1 sg o m, sgI sg c o A B a b]) [15] (by kernel_rfl) H7 (fun wq8 H9 => ?_)
 have cm5 := H9.mask [true, true, false, false, false, false, false, false, false]
 refine w_t 0 rfl cm5 (fun _ _ => xf 9) ?_
 refine w_t 1 rfl cm5 (fun _ H => xl H 0) ?_
 refine w_t 2 rfl cm5 (fun _ _ => xf 9) ?_
 refine w_t 3 rfl cm5 (fun _ H => xl H 0) ?_
 refine w_t 4 rfl cm5 (fun _ _ => xn) ?_
 refine w_t 5 rfl cm5 (fun _ _ => xf (offO o + 4)) ?_
 refine w_t 6 rfl cm5 (fun _ H => x_load1 H 1 rfl rfl Try.underlying45 rfl rfl (sgC_o rfl rfl rfl)) ?_
 refine w_t 8 rfl cm5 (fun _ _ => xf 1) ?_
 refine w_t 9 rfl cm5 (fun _ _ => xf 2) ?_
 refine w_t 10 rfl cm5 (fun _ H => xl H 0) ?_
 refine a_two (i := 7) (j := 11) (by kernel_rfl) rfl rfl ?_ ?_
 ·
  refine s_call (wt0 rfl) (x_call' rfl rfl cl25) (clone_i a.al A.pa A.ca (by omega) _ (H9.rwReads (k := 2) rfl)) ?_
  rintro _ wq12 ⟨p10, c11, rfl, H13⟩
  replace H13 : S wq12 [Rw 3 1 p10 a.al.length c11 (zV a.al), ddI g1 sg o m, sgI sg c o A B a b, alI A a, waI A a, goI A a, alI B b, waI B b, goI B b, olS w sg c o A B a b] := H9.absorb (new := [Rw 3 1 p10 a.al.length c11 (zV a.al)]) H13
  refine b_ret rfl rfl ?_
  refine a_k (H13.mask [false, true, true, false, false, false, false, false, false, false]) ?_
  refine a_one (i := 11) (by kernel_rfl) rfl ?_
  refine s_buildSlice H13 (wt0 rfl) rfl rfl rfl (vs := [.int .i64 (m.i1)]) rfl Try.underlying45 sz3 ze3 rfl rfl (cells := #[.int .i64 (m.i1)]) (by kernel_rfl) ?_
  intro g14 wq15 H16
  refine a_k (H16.mask [false, false, true, true, false, false, false, false, false, false, false]) ?_
  refine a_one (i := 12) (by kernel_rfl) rfl ?_
  refine s_appendR (n := a.al.length) (m := 1) (sc := c11) (xs := (zV a.al)) (news := [.int .i64 (m.i1)]) (p := p10) (ad := ⟨g14, 0, none⟩) H16 1 (wt0 rfl) rfl rfl rfl rfl rfl rfl Try.underlying45 inf3 rfl (by decide) (by decide) rfl (by decide) (news_ob H16 (j0 := 0) rfl) rfl (by omega) ?_
  intro p17 c18 wq19 (H20 : S wq19 [Ob g14 (.cells #[.int .i64 (m.i1)] 3 (0, 0)), Rw 3 1 p17 (a.al.length + 1) c18 ((zV a.al) ++ [.int .i64 (m.i1)]), ddI g1 sg o m, sgI sg c o A B a b, alI A a, waI A a, goI A a, alI B b, waI B b, goI B b, olS w sg c o A B a b])
  have cm6 := H20.mask [false, false, true, true, false, false, false, false, false, false, false]
  refine a_k cm6 ?_
  refine a_one (i := 13) (by kernel_rfl) rfl ?_
  refine s_val (v := .pointer (some ⟨sg, offO o, none⟩)) (wt0 rfl) rfl rfl (x_nilCheck rfl rfl) ?_
  refine a_k cm6 ?_
  refine a_one (i := 14) (by kernel_rfl) rfl ?_
  refine s_val (v := .pointer (some ⟨sg, offO o + 4, none⟩)) (wt0 rfl) rfl rfl (x_fieldAddr rfl rfl fo54_4 rfl) ?_
  refine a_k cm6 ?_
  refine a_one (i := 15) (by kernel_rfl) rfl ?_
  refine s_store1 H20 3 (wt0 rfl) rfl rfl rfl rfl rfl sz45 rfl rfl (sgC_ol rfl rfl (by decide)) ?_
  intro wq21 H22
  rw [sgC_so rfl rfl (by decide)] at H22
  replace H22 : S wq21 [Ob g14 (.cells #[.int .i64 (m.i1)] 3 (0, 0)), Rw 3 1 p17 (a.al.length + 1) c18 ((zV a.al) ++ [.int .i64 (m.i1)]), ddI g1 sg o m, Ob sg (.cells (sgC o c [.bool a.bg, .bool a.ck, .bool a.wt, .string (a.fd), .slice p17 (a.al.length + 1) c18, .slice A.pw a.wa.length A.cw, .map (some A.mg)] [.bool b.bg, .bool b.ck, .bool b.wt, .string (b.fd), .slice B.pa b.al.length B.ca, .slice B.pw b.wa.length B.cw, .map (some B.mg)]) 57 (0, 0)), alI A a, waI A a, goI A a, alI B b, waI B b, goI B b, olS w sg c o A B a b] := H22
  refine a_kt rfl ?_
  refine a_done (by kernel_rfl) ?_
  refine fin_end [] [] rfl trivial ?_
  have hzl : (a.al ++ [m.i1]).length = a.al.length + 1 := by simp
  exact ⟨{ A with pa := p17, ca := c18 }, rfl, by (try dsimp only [Wy.allow, sgI, alI]); rw [zV_app, hzl]; exact H22.takes [3, 1, 5, 6, 7, 8, 9, 10] (by decide)⟩
 ·
  refine s_buildSlice H9 (wt0 rfl) rfl rfl rfl (vs := [.int .i64 (m.i1)]) rfl Try.underlying45 sz3 ze3 rfl rfl (cells := #[.int .i64 (m.i1)]) (by kernel_rfl) ?_
  intro g23 wq24 H25
  refine a_k (H25.mask [false, true, true, false, false, false, false, false, false, false]) ?_
  refine a_one (i := 7) (by kernel_rfl) rfl ?_
  refine s_call (wt0 rfl) (x_call' rfl rfl cl25) (clone_i a.al A.pa A.ca (by omega) _ (H25.rwReads (k := 3) rfl)) ?_
  rintro _ wq28 ⟨p26, c27, rfl, H29⟩
  replace H29 : S wq28 [Rw 3 1 p26 a.al.length c27 (zV a.al), Ob g23 (.cells #[.int .i64 (m.i1)] 3 (0, 0)), ddI g1 sg o m, sgI sg c o A B a b, alI A a, waI A a, goI A a, alI B b, waI B b, goI B b, olS w sg c o A B a b] := H25.absorb (new := [Rw 3 1 p26 a.al.length c27 (zV a.al)]) H29
  refine b_ret rfl rfl ?_
  refine a_k (H29.mask [false, false, true, true, false, false, false, false, false, false, false]) ?_
  refine a_one (i := 12) (by kernel_rfl) rfl ?_
  refine s_appendR (n := a.al.length) (m := 1) (sc := c27) (xs := (zV a.al)) (news := [.int .i64 (m.i1)]) (p := p26) (ad := ⟨g23, 0, none⟩) H29 0 (wt0 rfl) rfl rfl rfl rfl rfl rfl Try.underlying45 inf3 rfl (by decide) (by decide) rfl (by decide) (news_ob H29 (j0 := 1) rfl) rfl (by omega) ?_
  intro p30 c31 wq32 (H33 : S wq32 [Rw 3 1 p30 (a.al.length + 1) c31 ((zV a.al) ++ [.int .i64 (m.i1)]), Ob g23 (.cells #[.int .i64 (m.i1)] 3 (0, 0)), ddI g1 sg o m, sgI sg c o A B a b, alI A a, waI A a, goI A a, alI B b, waI B b, goI B b, olS w sg c o A B a b])
  have cm7 := H33.mask [false, false, true, true, false, false, false, false, false, false, false]
  refine a_k cm7 ?_
  refine a_one (i := 13) (by kernel_rfl) rfl ?_
  refine s_val (v := .pointer (some ⟨sg, offO o, none⟩)) (wt0 rfl) rfl rfl (x_nilCheck rfl rfl) ?_
  refine a_k cm7 ?_
  refine a_one (i := 14) (by kernel_rfl) rfl ?_
  refine s_val (v := .pointer (some ⟨sg, offO o + 4, none⟩)) (wt0 rfl) rfl rfl (x_fieldAddr rfl rfl fo54_4 rfl) ?_
  refine a_k cm7 ?_
  refine a_one (i := 15) (by kernel_rfl) rfl ?_
  refine s_store1 H33 3 (wt0 rfl) rfl rfl rfl rfl rfl sz45 rfl rfl (sgC_ol rfl rfl (by decide)) ?_
  intro wq34 H35
  rw [sgC_so rfl rfl (by decide)] at H35
  replace H35 : S wq34 [Rw 3 1 p30 (a.al.length + 1) c31 ((zV a.al) ++ [.int .i64 (m.i1)]), Ob g23 (.cells #[.int .i64 (m.i1)] 3 (0, 0)), ddI g1 sg o m, Ob sg (.cells (sgC o c [.bool a.bg, .bool a.ck, .bool a.wt, .string (a.fd), .slice p30 (a.al.length + 1) c31, .slice A.pw a.wa.length A.cw, .map (some A.mg)] [.bool b.bg, .bool b.ck, .bool b.wt, .string (b.fd), .slice B.pa b.al.length B.ca, .slice B.pw b.wa.length B.cw, .map (some B.mg)]) 57 (0, 0)), alI A a, waI A a, goI A a, alI B b, waI B b, goI B b, olS w sg c o A B a b] := H35
  refine a_kt rfl ?_
  refine a_done (by kernel_rfl) ?_
  refine fin_end [] [] rfl trivial ?_
  have hzl : (a.al ++ [m.i1]).length = a.al.length + 1 := by simp
  exact ⟨{ A with pa := p30, ca := c31 }, rfl, by (try dsimp only [Wy.allow, sgI, alI]); rw [zV_app, hzl]; exact H35.takes [3, 0, 5, 6, 7, 8, 9, 10] (by decide)⟩
end Go.Proofs.Ytdkfkdekiljcoaa
