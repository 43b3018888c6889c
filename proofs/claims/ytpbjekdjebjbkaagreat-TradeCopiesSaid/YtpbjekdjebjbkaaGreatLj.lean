import Derived.Test.YtpbjekdjebjbkaaGreatFk
import Derived.Test.YtpbjekdjebjbkaaGreatLh
set_option linter.unusedSimpArgs false
set_option linter.unusedVariables false
namespace Go.Proofs.YtpbjekdjebjbkaaGreat
open Go.RowKit

theorem cl64 : callable Tryz.prog 64 = true := by kernel_rfl
theorem cl66 : callable Tryz.prog 66 = true := by kernel_rfl
theorem cl73 : callable Tryz.prog 73 = true := by kernel_rfl
theorem sz114 : szO Tryz.prog 114 = some 4 := by kernel_rfl
def qR (x : Rv) : Bool := (x.intr && !x.seed) && !x.snb
def ncB (x : Rv) : Bool := !x.chk
def ncN (x : Rv) : Int := if ncB x = true then 0 else 1
def c1 (x y : Rv) : Int := if y.frm - x.frm ≠ 0 then y.frm - x.frm else if ncN x - ncN y ≠ 0 then ncN x - ncN y else if x.since - y.since ≠ 0 then x.since - y.since else x.id - y.id
noncomputable def sorted1 (l : List Rv) : List Rv := srt Rv.zero c1 (l.filter qR)
noncomputable def reg1 (l : List Rv) (slots : Int) : List Rv := (sorted1 l).take (min (sorted1 l).length (slots - 1).toNat)
noncomputable def way1 (round slots : Int) (seed : ByteArray) (l : List Rv) : List Rv := fillL slots (reg1 l slots) (optL round seed l)
theorem sorted1_len (l : List Rv) : (sorted1 l).length ≤ l.length := by unfold sorted1; rw [srt_len]; exact List.length_filter_le _ _
set_option maxRecDepth 20000 in
set_option maxHeartbeats 4000000 in
theorem reg_s (x : Rv)  (w : World) : Calls Tryz.prog 63 #[.agg #[.int .i64 (x.id), .bool x.intr, .bool x.chk, .int .i64 (x.frm), .int .i64 (x.to), .int .i64 (x.lt), .int .i64 (x.since), .bool x.snb, .bool x.now, .bool x.seed]] w fun e w' => e = .returned (.bool (qR x)) ∧ S w' [Old w no] := by
 have H0 := S.old w
 refine enter 10 Tryz.func63 rfl rfl rfl ?_
 refine g_weak [(0, .agg #[.int .i64 (x.id), .bool x.intr, .bool x.chk, .int .i64 (x.frm), .int .i64 (x.to), .int .i64 (x.lt), .int .i64 (x.since), .bool x.snb, .bool x.now, .bool x.seed])] ⟨rfl, trivial⟩ ?_
 refine w_s ?_
 refine l_of (s_box H0 (wt0 rfl) rfl rfl rfl rfl ?_)
 intro g1 wq2 H3
 refine w_a ?_
 refine w_e ?_
 refine w_s ?_
 refine w_v (v := .agg #[.int .i64 (x.id), .bool x.intr, .bool x.chk, .int .i64 (x.frm), .int .i64 (x.to), .int .i64 (x.lt), .int .i64 (x.since), .bool x.snb, .bool x.now, .bool x.seed]) (x_loadA H3 0 rfl rfl Tryz.underlying102 rfl sz102 rfl rfl rfl) ?_
 refine l_of (s_call0 H3 (wt0 rfl) (x_call' rfl rfl cl64) (wants_s x _) rfl rfl ?_)
 intro wq4 H5
 refine w_m ?_
 rcases Bool.eq_false_or_eq_true ((qW x)) with hb6 | hb6
 ·
  refine w_g hb6 (xf 7) ?_
  refine w_g hb6 (xl H5 0) ?_
  refine w_g (v := .bool (!(x.snb))) hb6 (x_not (b := x.snb) rfl rfl) ?_
  refine w_v (v := .bool (!(x.snb))) (x_pick_t rfl rfl hb6 rfl) ?_
  refine w_a ?_
  refine w_e ?_
  refine g_ret ?_
  refine fin_ret [.tmp 2] [.bool (!(x.snb))] rfl ⟨rfl, trivial⟩ ?_
  exact ⟨by unfold qR; unfold qW at *; simp_all [tupled], H5.mask [false, true]⟩
 ·
  refine w_n hb6 ?_
  refine w_n hb6 ?_
  refine w_n hb6 ?_
  refine w_v (v := .bool false) (x_pick_f rfl rfl hb6 rfl) ?_
  refine w_a ?_
  refine w_e ?_
  refine g_ret ?_
  refine fin_ret [.tmp 2] [.bool false] rfl ⟨rfl, trivial⟩ ?_
  exact ⟨by unfold qR; unfold qW at *; simp_all [tupled], H5.mask [false, true]⟩
theorem reg_f (D : Rv → Prop) : FunC Tryz.prog 63 #[] #[] (Big []) (fun x : Rv => [x.v]) (fun x => .bool (qR x)) D :=
  FunC.pure (by kernel_rfl) fun x _ w => reg_s x w
set_option maxRecDepth 20000 in
set_option maxHeartbeats 4000000 in
theorem nch_s (x : Rv)  (w : World) : Calls Tryz.prog 69 #[.agg #[.int .i64 (x.id), .bool x.intr, .bool x.chk, .int .i64 (x.frm), .int .i64 (x.to), .int .i64 (x.lt), .int .i64 (x.since), .bool x.snb, .bool x.now, .bool x.seed]] w fun e w' => e = .returned (.bool (ncB x)) ∧ S w' [Old w no] := by
 have H0 := S.old w
 refine enter 6 Tryz.func69 rfl rfl rfl ?_
 refine g_weak [(0, .agg #[.int .i64 (x.id), .bool x.intr, .bool x.chk, .int .i64 (x.frm), .int .i64 (x.to), .int .i64 (x.lt), .int .i64 (x.since), .bool x.snb, .bool x.now, .bool x.seed])] ⟨rfl, trivial⟩ ?_
 refine w_s ?_
 refine l_of (s_box H0 (wt0 rfl) rfl rfl rfl rfl ?_)
 intro g1 wq2 H3
 refine w_a ?_
 refine w_e ?_
 refine w_s ?_
 refine w_f 2 ?_
 refine w_1 H3 0 ?_
 refine w_v (v := .bool (!(x.chk))) (x_not (b := x.chk) rfl rfl) ?_
 refine w_a ?_
 refine w_e ?_
 refine g_ret ?_
 refine fin_ret [.tmp 2] [.bool (!(x.chk))] rfl ⟨rfl, trivial⟩ ?_
 exact ⟨by unfold ncB; simp [tupled], H3.mask [false, true]⟩
theorem nch_f (D : Rv → Prop) : FunC Tryz.prog 69 #[] #[] (Big []) (fun x : Rv => [x.v]) (fun x => .bool (ncB x)) D :=
  FunC.pure (by kernel_rfl) fun x _ w => nch_s x w
set_option maxRecDepth 20000 in
set_option maxHeartbeats 4000000 in
theorem byFrom_s (x : Rv)  (w : World) : Calls Tryz.prog 67 #[.agg #[.int .i64 (x.id), .bool x.intr, .bool x.chk, .int .i64 (x.frm), .int .i64 (x.to), .int .i64 (x.lt), .int .i64 (x.since), .bool x.snb, .bool x.now, .bool x.seed]] w fun e w' => e = .returned (.int .i64 x.frm) ∧ S w' [Old w no] := by
 have H0 := S.old w
 refine enter 5 Tryz.func67 rfl rfl rfl ?_
 refine g_weak [(0, .agg #[.int .i64 (x.id), .bool x.intr, .bool x.chk, .int .i64 (x.frm), .int .i64 (x.to), .int .i64 (x.lt), .int .i64 (x.since), .bool x.snb, .bool x.now, .bool x.seed])] ⟨rfl, trivial⟩ ?_
 refine w_s ?_
 refine l_of (s_box H0 (wt0 rfl) rfl rfl rfl rfl ?_)
 intro g1 wq2 H3
 refine w_a ?_
 refine w_e ?_
 refine w_s ?_
 refine w_f 3 ?_
 refine w_1 H3 0 ?_
 refine w_a ?_
 refine w_e ?_
 refine g_ret ?_
 refine fin_ret [.tmp 2] [.int .i64 (x.frm)] rfl ⟨rfl, trivial⟩ ?_
 exact ⟨rfl, H3.mask [false, true]⟩
theorem byFrom_f (D : Rv → Prop) : FunC Tryz.prog 67 #[] #[] (Big []) (fun x : Rv => [x.v]) (fun x => .int .i64 (Rv.frm x)) D :=
  FunC.pure (by kernel_rfl) fun x _ w => byFrom_s x w
set_option maxRecDepth 20000 in
set_option maxHeartbeats 4000000 in
theorem bySince_s (x : Rv)  (w : World) : Calls Tryz.prog 71 #[.agg #[.int .i64 (x.id), .bool x.intr, .bool x.chk, .int .i64 (x.frm), .int .i64 (x.to), .int .i64 (x.lt), .int .i64 (x.since), .bool x.snb, .bool x.now, .bool x.seed]] w fun e w' => e = .returned (.int .i64 x.since) ∧ S w' [Old w no] := by
 have H0 := S.old w
 refine enter 5 Tryz.func71 rfl rfl rfl ?_
 refine g_weak [(0, .agg #[.int .i64 (x.id), .bool x.intr, .bool x.chk, .int .i64 (x.frm), .int .i64 (x.to), .int .i64 (x.lt), .int .i64 (x.since), .bool x.snb, .bool x.now, .bool x.seed])] ⟨rfl, trivial⟩ ?_
 refine w_s ?_
 refine l_of (s_box H0 (wt0 rfl) rfl rfl rfl rfl ?_)
 intro g1 wq2 H3
 refine w_a ?_
 refine w_e ?_
 refine w_s ?_
 refine w_f 6 ?_
 refine w_1 H3 0 ?_
 refine w_a ?_
 refine w_e ?_
 refine g_ret ?_
 refine fin_ret [.tmp 2] [.int .i64 (x.since)] rfl ⟨rfl, trivial⟩ ?_
 exact ⟨rfl, H3.mask [false, true]⟩
theorem bySince_f (D : Rv → Prop) : FunC Tryz.prog 71 #[] #[] (Big []) (fun x : Rv => [x.v]) (fun x => .int .i64 (Rv.since x)) D :=
  FunC.pure (by kernel_rfl) fun x _ w => bySince_s x w
set_option maxRecDepth 20000 in
set_option maxHeartbeats 4000000 in
theorem way1_s (round slots : Int) (seed : ByteArray) (l : List Rv) (p : Option Addr) (n c : Nat) (hn2 : n ≤ 20) (hval : ∀ x ∈ l, validR x = true) (hsd : seed.size ≤ 200) (hrd : 0 ≤ round ∧ round ≤ 200) (hsl : 0 ≤ slots ∧ slots ≤ 100)  (w : World) (hr : Reads w p n c 10 (fl rvL l)) (ht : PowTab w) : Calls Tryz.prog 61 #[.agg #[.int .i64 round, .int .i64 slots, .string seed, .slice p n c]] w fun e w' => ∃ p' c', e = .returned (.slice p' (way1 round slots seed l).length c') ∧ S w' ([Rw 102 10 p' (way1 round slots seed l).length c' (fl rvL (way1 round slots seed l))] ++ [Old w no]) := by
 have H0 := S.old w
 have hnl := hr.lenL rvE
 have hle1a := srt_len Rv.zero c1 (l.filter qR)
 have hle1b := List.length_filter_le qR l
 refine enter 21 Tryz.func61 rfl rfl rfl ?_
 refine g_weak [(0, .agg #[.int .i64 round, .int .i64 slots, .string seed, .slice p n c])] ⟨rfl, trivial⟩ ?_
 refine w_s ?_
 refine l_of (s_box H0 (wt0 rfl) rfl rfl rfl rfl ?_)
 intro g1 wq2 H3
 refine w_a ?_
 refine w_e ?_
 refine g_seq ?_
 refine g_anyY [] (fun wx => S wx [Ob g1 (.cells #[.int .i64 round, .int .i64 slots, .string seed, .slice p n c] 114 (0, 0))]) (fun wx => S wx [Ob g1 (.cells #[.int .i64 round, .int .i64 slots, .string seed, .slice p n c] 114 (0, 0))]) [] (by kernel_rfl) H3 (fun wq4 H5 => ?_)
 refine w_y 0 rfl (wt0 rfl) rfl rfl rfl (by kernel_rfl) (fun _ => x_fieldAddr (off' := 3) rfl rfl fo114_3 rfl) ?_
 refine y_take (v := .slice p n c) 1 rfl (wt0 rfl) rfl rfl rfl (by kernel_rfl) (by kernel_rfl) (by kernel_rfl) (by kernel_rfl) (by kernel_rfl) (H5.mask [true, false]) (fun wx H => x_load1 H 0 rfl rfl Tryz.underlying98 rfl rfl rfl) ?_
 refine y_one (i := 2) (by kernel_rfl) rfl ?_
 refine s_call (wt0 rfl) (x_call' rfl rfl cl66) (more_s 67 #[] #[] _) ?_
 rintro _ wq7 ⟨bl6, rfl, H8⟩
 replace H8 : S wq7 [Ob bl6 (.cells #[.func (.func 67) #[] #[]] 126 (0, 0)), Ob g1 (.cells #[.int .i64 round, .int .i64 slots, .string seed, .slice p n c] 114 (0, 0)), Old w no] := H5.absorb (new := [Ob bl6 (.cells #[.func (.func 67) #[] #[]] 126 (0, 0))]) H8
 refine b_ret rfl rfl ?_
 refine y_k (H8.mask [false, true, false]) (H8.mask [false, true, false]) ?_
 refine y_one (i := 3) (by kernel_rfl) rfl ?_
 refine s_call (wt0 rfl) (x_call' rfl rfl cl68) (ahead_s 69 #[] #[] _) ?_
 rintro _ wq11 ⟨bl9, bl10, rfl, H12⟩
 replace H12 : S wq11 [Ob bl9 (.cells #[.func (.func 94) #[] #[.pointer (some ⟨bl10, 0, none⟩)]] 126 (0, 0)), Ob bl10 (.cells #[.func (.func 69) #[] #[]] 121 (0, 0)), Ob bl6 (.cells #[.func (.func 67) #[] #[]] 126 (0, 0)), Ob g1 (.cells #[.int .i64 round, .int .i64 slots, .string seed, .slice p n c] 114 (0, 0)), Old w no] := by have h := H8.absorb H12; exact h
 refine b_ret rfl rfl ?_
 have cm1 := H12.mask [false, false, false, true, false]
 refine y_k cm1 cm1 ?_
 refine y_one (i := 4) (by kernel_rfl) rfl ?_
 refine s_call (wt0 rfl) (x_call' rfl rfl cl70) (less_s 71 #[] #[] _) ?_
 rintro _ wq14 ⟨bl13, rfl, H15⟩
 replace H15 : S wq14 [Ob bl13 (.cells #[.func (.func 71) #[] #[]] 126 (0, 0)), Ob bl9 (.cells #[.func (.func 94) #[] #[.pointer (some ⟨bl10, 0, none⟩)]] 126 (0, 0)), Ob bl10 (.cells #[.func (.func 69) #[] #[]] 121 (0, 0)), Ob bl6 (.cells #[.func (.func 67) #[] #[]] 126 (0, 0)), Ob g1 (.cells #[.int .i64 round, .int .i64 slots, .string seed, .slice p n c] 114 (0, 0)), Old w no] := H12.absorb (new := [Ob bl13 (.cells #[.func (.func 71) #[] #[]] 126 (0, 0))]) H15
 refine b_ret rfl rfl ?_
 have cm2 := H15.mask [false, false, false, false, true, false]
 refine y_k cm2 cm2 ?_
 refine y_one (i := 5) (by kernel_rfl) rfl ?_
 refine s_call (wt0 rfl) (x_call' rfl rfl cl70) (less_s 72 #[] #[] _) ?_
 rintro _ wq17 ⟨bl16, rfl, H18⟩
 replace H18 : S wq17 [Ob bl16 (.cells #[.func (.func 72) #[] #[]] 126 (0, 0)), Ob bl13 (.cells #[.func (.func 71) #[] #[]] 126 (0, 0)), Ob bl9 (.cells #[.func (.func 94) #[] #[.pointer (some ⟨bl10, 0, none⟩)]] 126 (0, 0)), Ob bl10 (.cells #[.func (.func 69) #[] #[]] 121 (0, 0)), Ob bl6 (.cells #[.func (.func 67) #[] #[]] 126 (0, 0)), Ob g1 (.cells #[.int .i64 round, .int .i64 slots, .string seed, .slice p n c] 114 (0, 0)), Old w no] := H15.absorb (new := [Ob bl16 (.cells #[.func (.func 72) #[] #[]] 126 (0, 0))]) H18
 refine b_ret rfl rfl ?_
 have cm3 := H18.mask [false, false, false, false, false, true, false]
 refine y_k cm3 cm3 ?_
 refine y_one (i := 6) (by kernel_rfl) rfl ?_
 refine s_buildSlice H18 (wt0 rfl) rfl rfl rfl (vs := [.func (.func 93) #[] #[.pointer (some ⟨bl6, 0, none⟩)], .func (.func 95) #[] #[.pointer (some ⟨bl9, 0, none⟩)], .func (.func 95) #[] #[.pointer (some ⟨bl13, 0, none⟩)], .func (.func 95) #[] #[.pointer (some ⟨bl16, 0, none⟩)]]) rfl Tryz.underlying138 sz123 ze123 rfl rfl (cells := #[.func (.func 93) #[] #[.pointer (some ⟨bl6, 0, none⟩)], .func (.func 95) #[] #[.pointer (some ⟨bl9, 0, none⟩)], .func (.func 95) #[] #[.pointer (some ⟨bl13, 0, none⟩)], .func (.func 95) #[] #[.pointer (some ⟨bl16, 0, none⟩)]]) (by kernel_rfl) ?_
 intro g19 wq20 H21
 have cm4 := H21.mask [false, false, false, false, false, false, true, false]
 refine y_k cm4 cm4 ?_
 refine y_one (i := 7) (by kernel_rfl) rfl ?_
 refine s_call (wt0 rfl) (x_call' rfl rfl cl65) (by_s (some ⟨g19, 0, none⟩) 4 4 _) ?_
 rintro _ wq23 ⟨bl22, rfl, H24⟩
 replace H24 : S wq23 [Ob bl22 (.cells #[.slice (some ⟨g19, 0, none⟩) (4) (4)] 138 (0, 0)), Ob g19 (.cells #[.func (.func 93) #[] #[.pointer (some ⟨bl6, 0, none⟩)], .func (.func 95) #[] #[.pointer (some ⟨bl9, 0, none⟩)], .func (.func 95) #[] #[.pointer (some ⟨bl13, 0, none⟩)], .func (.func 95) #[] #[.pointer (some ⟨bl16, 0, none⟩)]] 123 (0, 0)), Ob bl16 (.cells #[.func (.func 72) #[] #[]] 126 (0, 0)), Ob bl13 (.cells #[.func (.func 71) #[] #[]] 126 (0, 0)), Ob bl9 (.cells #[.func (.func 94) #[] #[.pointer (some ⟨bl10, 0, none⟩)]] 126 (0, 0)), Ob bl10 (.cells #[.func (.func 69) #[] #[]] 121 (0, 0)), Ob bl6 (.cells #[.func (.func 67) #[] #[]] 126 (0, 0)), Ob g1 (.cells #[.int .i64 round, .int .i64 slots, .string seed, .slice p n c] 114 (0, 0)), Old w no] := by have h := H21.absorb H24; exact h
 refine b_ret rfl rfl ?_
 have cm5 := H24.mask [false, false, false, false, false, false, false, true, false]
 refine y_k cm5 cm5 ?_
 refine y_one (i := 8) (by kernel_rfl) rfl ?_
 have H25 : S wq23 [(Big []), Ob bl22 (.cells #[.slice (some ⟨g19, 0, none⟩) (4) (4)] 138 (0, 0)), Ob g19 (.cells #[.func (.func 93) #[] #[.pointer (some ⟨bl6, 0, none⟩)], .func (.func 95) #[] #[.pointer (some ⟨bl9, 0, none⟩)], .func (.func 95) #[] #[.pointer (some ⟨bl13, 0, none⟩)], .func (.func 95) #[] #[.pointer (some ⟨bl16, 0, none⟩)]] 123 (0, 0)), Ob bl16 (.cells #[.func (.func 72) #[] #[]] 126 (0, 0)), Ob bl13 (.cells #[.func (.func 71) #[] #[]] 126 (0, 0)), Ob bl9 (.cells #[.func (.func 94) #[] #[.pointer (some ⟨bl10, 0, none⟩)]] 126 (0, 0)), Ob bl10 (.cells #[.func (.func 69) #[] #[]] 121 (0, 0)), Ob bl6 (.cells #[.func (.func 67) #[] #[]] 126 (0, 0)), Ob g1 (.cells #[.int .i64 round, .int .i64 slots, .string seed, .slice p n c] 114 (0, 0)), Old w no] := H24.addNil
 have H26 : S wq23 [(Big [Ob bl6 (.cells #[.func (.func 67) #[] #[]] 126 (0, 0)), (Big [])]), Ob bl22 (.cells #[.slice (some ⟨g19, 0, none⟩) (4) (4)] 138 (0, 0)), Ob g19 (.cells #[.func (.func 93) #[] #[.pointer (some ⟨bl6, 0, none⟩)], .func (.func 95) #[] #[.pointer (some ⟨bl9, 0, none⟩)], .func (.func 95) #[] #[.pointer (some ⟨bl13, 0, none⟩)], .func (.func 95) #[] #[.pointer (some ⟨bl16, 0, none⟩)]] 123 (0, 0)), Ob bl16 (.cells #[.func (.func 72) #[] #[]] 126 (0, 0)), Ob bl13 (.cells #[.func (.func 71) #[] #[]] 126 (0, 0)), Ob bl9 (.cells #[.func (.func 94) #[] #[.pointer (some ⟨bl10, 0, none⟩)]] 126 (0, 0)), Ob bl10 (.cells #[.func (.func 69) #[] #[]] 121 (0, 0)), Ob g1 (.cells #[.int .i64 round, .int .i64 slots, .string seed, .slice p n c] 114 (0, 0)), Old w no] := S.big (L := [Ob bl6 (.cells #[.func (.func 67) #[] #[]] 126 (0, 0)), (Big [])]) (H25.takes [7, 0, 1, 2, 3, 4, 5, 6, 8, 9] (by decide))
 have H27 : S wq23 [(Big []), (Big [Ob bl6 (.cells #[.func (.func 67) #[] #[]] 126 (0, 0)), (Big [])]), Ob bl22 (.cells #[.slice (some ⟨g19, 0, none⟩) (4) (4)] 138 (0, 0)), Ob g19 (.cells #[.func (.func 93) #[] #[.pointer (some ⟨bl6, 0, none⟩)], .func (.func 95) #[] #[.pointer (some ⟨bl9, 0, none⟩)], .func (.func 95) #[] #[.pointer (some ⟨bl13, 0, none⟩)], .func (.func 95) #[] #[.pointer (some ⟨bl16, 0, none⟩)]] 123 (0, 0)), Ob bl16 (.cells #[.func (.func 72) #[] #[]] 126 (0, 0)), Ob bl13 (.cells #[.func (.func 71) #[] #[]] 126 (0, 0)), Ob bl9 (.cells #[.func (.func 94) #[] #[.pointer (some ⟨bl10, 0, none⟩)]] 126 (0, 0)), Ob bl10 (.cells #[.func (.func 69) #[] #[]] 121 (0, 0)), Ob g1 (.cells #[.int .i64 round, .int .i64 slots, .string seed, .slice p n c] 114 (0, 0)), Old w no] := H26.addNil
 have H28 : S wq23 [(Big [Ob bl10 (.cells #[.func (.func 69) #[] #[]] 121 (0, 0)), (Big [])]), (Big [Ob bl6 (.cells #[.func (.func 67) #[] #[]] 126 (0, 0)), (Big [])]), Ob bl22 (.cells #[.slice (some ⟨g19, 0, none⟩) (4) (4)] 138 (0, 0)), Ob g19 (.cells #[.func (.func 93) #[] #[.pointer (some ⟨bl6, 0, none⟩)], .func (.func 95) #[] #[.pointer (some ⟨bl9, 0, none⟩)], .func (.func 95) #[] #[.pointer (some ⟨bl13, 0, none⟩)], .func (.func 95) #[] #[.pointer (some ⟨bl16, 0, none⟩)]] 123 (0, 0)), Ob bl16 (.cells #[.func (.func 72) #[] #[]] 126 (0, 0)), Ob bl13 (.cells #[.func (.func 71) #[] #[]] 126 (0, 0)), Ob bl9 (.cells #[.func (.func 94) #[] #[.pointer (some ⟨bl10, 0, none⟩)]] 126 (0, 0)), Ob g1 (.cells #[.int .i64 round, .int .i64 slots, .string seed, .slice p n c] 114 (0, 0)), Old w no] := S.big (L := [Ob bl10 (.cells #[.func (.func 69) #[] #[]] 121 (0, 0)), (Big [])]) (H27.takes [7, 0, 1, 2, 3, 4, 5, 6, 8, 9] (by decide))
 have H29 : S wq23 [(Big [Ob bl9 (.cells #[.func (.func 94) #[] #[.pointer (some ⟨bl10, 0, none⟩)]] 126 (0, 0)), (Big [Ob bl10 (.cells #[.func (.func 69) #[] #[]] 121 (0, 0)), (Big [])])]), (Big [Ob bl6 (.cells #[.func (.func 67) #[] #[]] 126 (0, 0)), (Big [])]), Ob bl22 (.cells #[.slice (some ⟨g19, 0, none⟩) (4) (4)] 138 (0, 0)), Ob g19 (.cells #[.func (.func 93) #[] #[.pointer (some ⟨bl6, 0, none⟩)], .func (.func 95) #[] #[.pointer (some ⟨bl9, 0, none⟩)], .func (.func 95) #[] #[.pointer (some ⟨bl13, 0, none⟩)], .func (.func 95) #[] #[.pointer (some ⟨bl16, 0, none⟩)]] 123 (0, 0)), Ob bl16 (.cells #[.func (.func 72) #[] #[]] 126 (0, 0)), Ob bl13 (.cells #[.func (.func 71) #[] #[]] 126 (0, 0)), Ob g1 (.cells #[.int .i64 round, .int .i64 slots, .string seed, .slice p n c] 114 (0, 0)), Old w no] := S.big (L := [Ob bl9 (.cells #[.func (.func 94) #[] #[.pointer (some ⟨bl10, 0, none⟩)]] 126 (0, 0)), (Big [Ob bl10 (.cells #[.func (.func 69) #[] #[]] 121 (0, 0)), (Big [])])]) (H28.takes [6, 0, 1, 2, 3, 4, 5, 7, 8] (by decide))
 have H30 : S wq23 [(Big []), (Big [Ob bl9 (.cells #[.func (.func 94) #[] #[.pointer (some ⟨bl10, 0, none⟩)]] 126 (0, 0)), (Big [Ob bl10 (.cells #[.func (.func 69) #[] #[]] 121 (0, 0)), (Big [])])]), (Big [Ob bl6 (.cells #[.func (.func 67) #[] #[]] 126 (0, 0)), (Big [])]), Ob bl22 (.cells #[.slice (some ⟨g19, 0, none⟩) (4) (4)] 138 (0, 0)), Ob g19 (.cells #[.func (.func 93) #[] #[.pointer (some ⟨bl6, 0, none⟩)], .func (.func 95) #[] #[.pointer (some ⟨bl9, 0, none⟩)], .func (.func 95) #[] #[.pointer (some ⟨bl13, 0, none⟩)], .func (.func 95) #[] #[.pointer (some ⟨bl16, 0, none⟩)]] 123 (0, 0)), Ob bl16 (.cells #[.func (.func 72) #[] #[]] 126 (0, 0)), Ob bl13 (.cells #[.func (.func 71) #[] #[]] 126 (0, 0)), Ob g1 (.cells #[.int .i64 round, .int .i64 slots, .string seed, .slice p n c] 114 (0, 0)), Old w no] := H29.addNil
 have H31 : S wq23 [(Big [Ob bl13 (.cells #[.func (.func 71) #[] #[]] 126 (0, 0)), (Big [])]), (Big [Ob bl9 (.cells #[.func (.func 94) #[] #[.pointer (some ⟨bl10, 0, none⟩)]] 126 (0, 0)), (Big [Ob bl10 (.cells #[.func (.func 69) #[] #[]] 121 (0, 0)), (Big [])])]), (Big [Ob bl6 (.cells #[.func (.func 67) #[] #[]] 126 (0, 0)), (Big [])]), Ob bl22 (.cells #[.slice (some ⟨g19, 0, none⟩) (4) (4)] 138 (0, 0)), Ob g19 (.cells #[.func (.func 93) #[] #[.pointer (some ⟨bl6, 0, none⟩)], .func (.func 95) #[] #[.pointer (some ⟨bl9, 0, none⟩)], .func (.func 95) #[] #[.pointer (some ⟨bl13, 0, none⟩)], .func (.func 95) #[] #[.pointer (some ⟨bl16, 0, none⟩)]] 123 (0, 0)), Ob bl16 (.cells #[.func (.func 72) #[] #[]] 126 (0, 0)), Ob g1 (.cells #[.int .i64 round, .int .i64 slots, .string seed, .slice p n c] 114 (0, 0)), Old w no] := S.big (L := [Ob bl13 (.cells #[.func (.func 71) #[] #[]] 126 (0, 0)), (Big [])]) (H30.takes [6, 0, 1, 2, 3, 4, 5, 7, 8] (by decide))
 have H32 : S wq23 [(Big []), (Big [Ob bl13 (.cells #[.func (.func 71) #[] #[]] 126 (0, 0)), (Big [])]), (Big [Ob bl9 (.cells #[.func (.func 94) #[] #[.pointer (some ⟨bl10, 0, none⟩)]] 126 (0, 0)), (Big [Ob bl10 (.cells #[.func (.func 69) #[] #[]] 121 (0, 0)), (Big [])])]), (Big [Ob bl6 (.cells #[.func (.func 67) #[] #[]] 126 (0, 0)), (Big [])]), Ob bl22 (.cells #[.slice (some ⟨g19, 0, none⟩) (4) (4)] 138 (0, 0)), Ob g19 (.cells #[.func (.func 93) #[] #[.pointer (some ⟨bl6, 0, none⟩)], .func (.func 95) #[] #[.pointer (some ⟨bl9, 0, none⟩)], .func (.func 95) #[] #[.pointer (some ⟨bl13, 0, none⟩)], .func (.func 95) #[] #[.pointer (some ⟨bl16, 0, none⟩)]] 123 (0, 0)), Ob bl16 (.cells #[.func (.func 72) #[] #[]] 126 (0, 0)), Ob g1 (.cells #[.int .i64 round, .int .i64 slots, .string seed, .slice p n c] 114 (0, 0)), Old w no] := H31.addNil
 have H33 : S wq23 [(Big [Ob bl16 (.cells #[.func (.func 72) #[] #[]] 126 (0, 0)), (Big [])]), (Big [Ob bl13 (.cells #[.func (.func 71) #[] #[]] 126 (0, 0)), (Big [])]), (Big [Ob bl9 (.cells #[.func (.func 94) #[] #[.pointer (some ⟨bl10, 0, none⟩)]] 126 (0, 0)), (Big [Ob bl10 (.cells #[.func (.func 69) #[] #[]] 121 (0, 0)), (Big [])])]), (Big [Ob bl6 (.cells #[.func (.func 67) #[] #[]] 126 (0, 0)), (Big [])]), Ob bl22 (.cells #[.slice (some ⟨g19, 0, none⟩) (4) (4)] 138 (0, 0)), Ob g19 (.cells #[.func (.func 93) #[] #[.pointer (some ⟨bl6, 0, none⟩)], .func (.func 95) #[] #[.pointer (some ⟨bl9, 0, none⟩)], .func (.func 95) #[] #[.pointer (some ⟨bl13, 0, none⟩)], .func (.func 95) #[] #[.pointer (some ⟨bl16, 0, none⟩)]] 123 (0, 0)), Ob g1 (.cells #[.int .i64 round, .int .i64 slots, .string seed, .slice p n c] 114 (0, 0)), Old w no] := S.big (L := [Ob bl16 (.cells #[.func (.func 72) #[] #[]] 126 (0, 0)), (Big [])]) (H32.takes [6, 0, 1, 2, 3, 4, 5, 7, 8] (by decide))
 have H34 : S wq23 [(Big [Ob bl22 (.cells #[.slice (some ⟨g19, 0, none⟩) (4) (4)] 138 (0, 0)), Ob g19 (.cells #[.func (.func 93) #[] #[.pointer (some ⟨bl6, 0, none⟩)], .func (.func 95) #[] #[.pointer (some ⟨bl9, 0, none⟩)], .func (.func 95) #[] #[.pointer (some ⟨bl13, 0, none⟩)], .func (.func 95) #[] #[.pointer (some ⟨bl16, 0, none⟩)]] 123 (0, 0)), (Big [Ob bl6 (.cells #[.func (.func 67) #[] #[]] 126 (0, 0)), (Big [])]), (Big [Ob bl9 (.cells #[.func (.func 94) #[] #[.pointer (some ⟨bl10, 0, none⟩)]] 126 (0, 0)), (Big [Ob bl10 (.cells #[.func (.func 69) #[] #[]] 121 (0, 0)), (Big [])])]), (Big [Ob bl13 (.cells #[.func (.func 71) #[] #[]] 126 (0, 0)), (Big [])]), (Big [Ob bl16 (.cells #[.func (.func 72) #[] #[]] 126 (0, 0)), (Big [])])]), Ob g1 (.cells #[.int .i64 round, .int .i64 slots, .string seed, .slice p n c] 114 (0, 0)), Old w no] := S.big (L := [Ob bl22 (.cells #[.slice (some ⟨g19, 0, none⟩) (4) (4)] 138 (0, 0)), Ob g19 (.cells #[.func (.func 93) #[] #[.pointer (some ⟨bl6, 0, none⟩)], .func (.func 95) #[] #[.pointer (some ⟨bl9, 0, none⟩)], .func (.func 95) #[] #[.pointer (some ⟨bl13, 0, none⟩)], .func (.func 95) #[] #[.pointer (some ⟨bl16, 0, none⟩)]] 123 (0, 0)), (Big [Ob bl6 (.cells #[.func (.func 67) #[] #[]] 126 (0, 0)), (Big [])]), (Big [Ob bl9 (.cells #[.func (.func 94) #[] #[.pointer (some ⟨bl10, 0, none⟩)]] 126 (0, 0)), (Big [Ob bl10 (.cells #[.func (.func 69) #[] #[]] 121 (0, 0)), (Big [])])]), (Big [Ob bl13 (.cells #[.func (.func 71) #[] #[]] 126 (0, 0)), (Big [])]), (Big [Ob bl16 (.cells #[.func (.func 72) #[] #[]] 126 (0, 0)), (Big [])])]) (H33.takes [4, 5, 3, 2, 1, 0, 6, 7] (by decide))
 have H35 : S wq23 [(Big []), (Big [Ob bl22 (.cells #[.slice (some ⟨g19, 0, none⟩) (4) (4)] 138 (0, 0)), Ob g19 (.cells #[.func (.func 93) #[] #[.pointer (some ⟨bl6, 0, none⟩)], .func (.func 95) #[] #[.pointer (some ⟨bl9, 0, none⟩)], .func (.func 95) #[] #[.pointer (some ⟨bl13, 0, none⟩)], .func (.func 95) #[] #[.pointer (some ⟨bl16, 0, none⟩)]] 123 (0, 0)), (Big [Ob bl6 (.cells #[.func (.func 67) #[] #[]] 126 (0, 0)), (Big [])]), (Big [Ob bl9 (.cells #[.func (.func 94) #[] #[.pointer (some ⟨bl10, 0, none⟩)]] 126 (0, 0)), (Big [Ob bl10 (.cells #[.func (.func 69) #[] #[]] 121 (0, 0)), (Big [])])]), (Big [Ob bl13 (.cells #[.func (.func 71) #[] #[]] 126 (0, 0)), (Big [])]), (Big [Ob bl16 (.cells #[.func (.func 72) #[] #[]] 126 (0, 0)), (Big [])])]), Ob g1 (.cells #[.int .i64 round, .int .i64 slots, .string seed, .slice p n c] 114 (0, 0)), Old w no] := H34.addNil
 refine s_call (wt0 rfl) (x_call' rfl rfl cl62) (which_s l p n c (by omega) 63 #[] #[] (Big []) qR (fun _ => True) (reg_f _) 92 #[] #[.pointer (some ⟨bl22, 0, none⟩)] (Big [Ob bl22 (.cells #[.slice (some ⟨g19, 0, none⟩) (4) (4)] 138 (0, 0)), Ob g19 (.cells #[.func (.func 93) #[] #[.pointer (some ⟨bl6, 0, none⟩)], .func (.func 95) #[] #[.pointer (some ⟨bl9, 0, none⟩)], .func (.func 95) #[] #[.pointer (some ⟨bl13, 0, none⟩)], .func (.func 95) #[] #[.pointer (some ⟨bl16, 0, none⟩)]] 123 (0, 0)), (Big [Ob bl6 (.cells #[.func (.func 67) #[] #[]] 126 (0, 0)), (Big [])]), (Big [Ob bl9 (.cells #[.func (.func 94) #[] #[.pointer (some ⟨bl10, 0, none⟩)]] 126 (0, 0)), (Big [Ob bl10 (.cells #[.func (.func 69) #[] #[]] 121 (0, 0)), (Big [])])]), (Big [Ob bl13 (.cells #[.func (.func 71) #[] #[]] 126 (0, 0)), (Big [])]), (Big [Ob bl16 (.cells #[.func (.func 72) #[] #[]] 126 (0, 0)), (Big [])])]) c1 DV (by1_4f bl22 g19 DV 93 #[] #[.pointer (some ⟨bl6, 0, none⟩)] (Big [Ob bl6 (.cells #[.func (.func 67) #[] #[]] 126 (0, 0)), (Big [])]) (fun x y : Rv => Rv.frm y - Rv.frm x) (more1_f bl6 67 #[] #[] (Big []) Rv.frm DV (byFrom_f DV) (fun x y h1 h2 => by unfold DV at h1 h2; omega)) 95 #[] #[.pointer (some ⟨bl9, 0, none⟩)] (Big [Ob bl9 (.cells #[.func (.func 94) #[] #[.pointer (some ⟨bl10, 0, none⟩)]] 126 (0, 0)), (Big [Ob bl10 (.cells #[.func (.func 69) #[] #[]] 121 (0, 0)), (Big [])])]) (fun x y : Rv => ncN x - ncN y) (less1_f bl9 94 #[] #[.pointer (some ⟨bl10, 0, none⟩)] (Big [Ob bl10 (.cells #[.func (.func 69) #[] #[]] 121 (0, 0)), (Big [])]) ncN DV (ahead1_f bl10 69 #[] #[] (Big []) ncB DV (nch_f DV)) (fun x y _ _ => by unfold ncN; split <;> split <;> omega)) 95 #[] #[.pointer (some ⟨bl13, 0, none⟩)] (Big [Ob bl13 (.cells #[.func (.func 71) #[] #[]] 126 (0, 0)), (Big [])]) (fun x y : Rv => Rv.since x - Rv.since y) (less1_f bl13 71 #[] #[] (Big []) Rv.since DV (bySince_f DV) (fun x y h1 h2 => by unfold DV at h1 h2; omega)) 95 #[] #[.pointer (some ⟨bl16, 0, none⟩)] (Big [Ob bl16 (.cells #[.func (.func 72) #[] #[]] 126 (0, 0)), (Big [])]) (fun x y : Rv => Rv.id x - Rv.id y) (less1_f bl16 72 #[] #[] (Big []) Rv.id DV (byID_f DV) (fun x y h1 h2 => by unfold DV at h1 h2; omega))) (fun _ _ => trivial) (fun x hx => validR_D (hval x hx)) _ (H35.takes [0, 1] (by decide)) (H35.staysOld (i := 3) (k1 := 0) (k2 := 1) rfl rfl rfl (by decide) (by decide) hr (by decide) (fun _ _ _ h => h))) ?_
 rintro _ wq36 ⟨pw1, cw1, rfl, H37⟩
 replace H37 : S wq36 [Rw 102 10 pw1 ((srt Rv.zero c1 (l.filter qR)).length) cw1 (fl rvL (srt Rv.zero c1 (l.filter qR))), (Big []), (Big [Ob bl22 (.cells #[.slice (some ⟨g19, 0, none⟩) (4) (4)] 138 (0, 0)), Ob g19 (.cells #[.func (.func 93) #[] #[.pointer (some ⟨bl6, 0, none⟩)], .func (.func 95) #[] #[.pointer (some ⟨bl9, 0, none⟩)], .func (.func 95) #[] #[.pointer (some ⟨bl13, 0, none⟩)], .func (.func 95) #[] #[.pointer (some ⟨bl16, 0, none⟩)]] 123 (0, 0)), (Big [Ob bl6 (.cells #[.func (.func 67) #[] #[]] 126 (0, 0)), (Big [])]), (Big [Ob bl9 (.cells #[.func (.func 94) #[] #[.pointer (some ⟨bl10, 0, none⟩)]] 126 (0, 0)), (Big [Ob bl10 (.cells #[.func (.func 69) #[] #[]] 121 (0, 0)), (Big [])])]), (Big [Ob bl13 (.cells #[.func (.func 71) #[] #[]] 126 (0, 0)), (Big [])]), (Big [Ob bl16 (.cells #[.func (.func 72) #[] #[]] 126 (0, 0)), (Big [])])]), Ob g1 (.cells #[.int .i64 round, .int .i64 slots, .string seed, .slice p n c] 114 (0, 0)), Old w no] := by have h := H35.absorbI [0, 1] H37; exact h
 have H38 : S wq36 [Ob bl22 (.cells #[.slice (some ⟨g19, 0, none⟩) (4) (4)] 138 (0, 0)), Ob g19 (.cells #[.func (.func 93) #[] #[.pointer (some ⟨bl6, 0, none⟩)], .func (.func 95) #[] #[.pointer (some ⟨bl9, 0, none⟩)], .func (.func 95) #[] #[.pointer (some ⟨bl13, 0, none⟩)], .func (.func 95) #[] #[.pointer (some ⟨bl16, 0, none⟩)]] 123 (0, 0)), (Big [Ob bl6 (.cells #[.func (.func 67) #[] #[]] 126 (0, 0)), (Big [])]), (Big [Ob bl9 (.cells #[.func (.func 94) #[] #[.pointer (some ⟨bl10, 0, none⟩)]] 126 (0, 0)), (Big [Ob bl10 (.cells #[.func (.func 69) #[] #[]] 121 (0, 0)), (Big [])])]), (Big [Ob bl13 (.cells #[.func (.func 71) #[] #[]] 126 (0, 0)), (Big [])]), (Big [Ob bl16 (.cells #[.func (.func 72) #[] #[]] 126 (0, 0)), (Big [])]), Rw 102 10 pw1 ((srt Rv.zero c1 (l.filter qR)).length) cw1 (fl rvL (srt Rv.zero c1 (l.filter qR))), (Big []), Ob g1 (.cells #[.int .i64 round, .int .i64 slots, .string seed, .slice p n c] 114 (0, 0)), Old w no] := S.unbig (H37.takes [2, 0, 1, 3, 4] (by decide))
 have H39 : S wq36 [Ob bl6 (.cells #[.func (.func 67) #[] #[]] 126 (0, 0)), (Big []), Ob bl22 (.cells #[.slice (some ⟨g19, 0, none⟩) (4) (4)] 138 (0, 0)), Ob g19 (.cells #[.func (.func 93) #[] #[.pointer (some ⟨bl6, 0, none⟩)], .func (.func 95) #[] #[.pointer (some ⟨bl9, 0, none⟩)], .func (.func 95) #[] #[.pointer (some ⟨bl13, 0, none⟩)], .func (.func 95) #[] #[.pointer (some ⟨bl16, 0, none⟩)]] 123 (0, 0)), (Big [Ob bl9 (.cells #[.func (.func 94) #[] #[.pointer (some ⟨bl10, 0, none⟩)]] 126 (0, 0)), (Big [Ob bl10 (.cells #[.func (.func 69) #[] #[]] 121 (0, 0)), (Big [])])]), (Big [Ob bl13 (.cells #[.func (.func 71) #[] #[]] 126 (0, 0)), (Big [])]), (Big [Ob bl16 (.cells #[.func (.func 72) #[] #[]] 126 (0, 0)), (Big [])]), Rw 102 10 pw1 ((srt Rv.zero c1 (l.filter qR)).length) cw1 (fl rvL (srt Rv.zero c1 (l.filter qR))), (Big []), Ob g1 (.cells #[.int .i64 round, .int .i64 slots, .string seed, .slice p n c] 114 (0, 0)), Old w no] := S.unbig (H38.takes [2, 0, 1, 3, 4, 5, 6, 7, 8, 9] (by decide))
 have H40 : S wq36 [Ob bl9 (.cells #[.func (.func 94) #[] #[.pointer (some ⟨bl10, 0, none⟩)]] 126 (0, 0)), (Big [Ob bl10 (.cells #[.func (.func 69) #[] #[]] 121 (0, 0)), (Big [])]), Ob bl6 (.cells #[.func (.func 67) #[] #[]] 126 (0, 0)), (Big []), Ob bl22 (.cells #[.slice (some ⟨g19, 0, none⟩) (4) (4)] 138 (0, 0)), Ob g19 (.cells #[.func (.func 93) #[] #[.pointer (some ⟨bl6, 0, none⟩)], .func (.func 95) #[] #[.pointer (some ⟨bl9, 0, none⟩)], .func (.func 95) #[] #[.pointer (some ⟨bl13, 0, none⟩)], .func (.func 95) #[] #[.pointer (some ⟨bl16, 0, none⟩)]] 123 (0, 0)), (Big [Ob bl13 (.cells #[.func (.func 71) #[] #[]] 126 (0, 0)), (Big [])]), (Big [Ob bl16 (.cells #[.func (.func 72) #[] #[]] 126 (0, 0)), (Big [])]), Rw 102 10 pw1 ((srt Rv.zero c1 (l.filter qR)).length) cw1 (fl rvL (srt Rv.zero c1 (l.filter qR))), (Big []), Ob g1 (.cells #[.int .i64 round, .int .i64 slots, .string seed, .slice p n c] 114 (0, 0)), Old w no] := S.unbig (H39.takes [4, 0, 1, 2, 3, 5, 6, 7, 8, 9, 10] (by decide))
 have H41 : S wq36 [Ob bl10 (.cells #[.func (.func 69) #[] #[]] 121 (0, 0)), (Big []), Ob bl9 (.cells #[.func (.func 94) #[] #[.pointer (some ⟨bl10, 0, none⟩)]] 126 (0, 0)), Ob bl6 (.cells #[.func (.func 67) #[] #[]] 126 (0, 0)), (Big []), Ob bl22 (.cells #[.slice (some ⟨g19, 0, none⟩) (4) (4)] 138 (0, 0)), Ob g19 (.cells #[.func (.func 93) #[] #[.pointer (some ⟨bl6, 0, none⟩)], .func (.func 95) #[] #[.pointer (some ⟨bl9, 0, none⟩)], .func (.func 95) #[] #[.pointer (some ⟨bl13, 0, none⟩)], .func (.func 95) #[] #[.pointer (some ⟨bl16, 0, none⟩)]] 123 (0, 0)), (Big [Ob bl13 (.cells #[.func (.func 71) #[] #[]] 126 (0, 0)), (Big [])]), (Big [Ob bl16 (.cells #[.func (.func 72) #[] #[]] 126 (0, 0)), (Big [])]), Rw 102 10 pw1 ((srt Rv.zero c1 (l.filter qR)).length) cw1 (fl rvL (srt Rv.zero c1 (l.filter qR))), (Big []), Ob g1 (.cells #[.int .i64 round, .int .i64 slots, .string seed, .slice p n c] 114 (0, 0)), Old w no] := S.unbig (H40.takes [1, 0, 2, 3, 4, 5, 6, 7, 8, 9, 10, 11] (by decide))
 have H42 : S wq36 [Ob bl13 (.cells #[.func (.func 71) #[] #[]] 126 (0, 0)), (Big []), Ob bl10 (.cells #[.func (.func 69) #[] #[]] 121 (0, 0)), (Big []), Ob bl9 (.cells #[.func (.func 94) #[] #[.pointer (some ⟨bl10, 0, none⟩)]] 126 (0, 0)), Ob bl6 (.cells #[.func (.func 67) #[] #[]] 126 (0, 0)), (Big []), Ob bl22 (.cells #[.slice (some ⟨g19, 0, none⟩) (4) (4)] 138 (0, 0)), Ob g19 (.cells #[.func (.func 93) #[] #[.pointer (some ⟨bl6, 0, none⟩)], .func (.func 95) #[] #[.pointer (some ⟨bl9, 0, none⟩)], .func (.func 95) #[] #[.pointer (some ⟨bl13, 0, none⟩)], .func (.func 95) #[] #[.pointer (some ⟨bl16, 0, none⟩)]] 123 (0, 0)), (Big [Ob bl16 (.cells #[.func (.func 72) #[] #[]] 126 (0, 0)), (Big [])]), Rw 102 10 pw1 ((srt Rv.zero c1 (l.filter qR)).length) cw1 (fl rvL (srt Rv.zero c1 (l.filter qR))), (Big []), Ob g1 (.cells #[.int .i64 round, .int .i64 slots, .string seed, .slice p n c] 114 (0, 0)), Old w no] := S.unbig (H41.takes [7, 0, 1, 2, 3, 4, 5, 6, 8, 9, 10, 11, 12] (by decide))
 have H43 : S wq36 [Ob bl16 (.cells #[.func (.func 72) #[] #[]] 126 (0, 0)), (Big []), Ob bl13 (.cells #[.func (.func 71) #[] #[]] 126 (0, 0)), (Big []), Ob bl10 (.cells #[.func (.func 69) #[] #[]] 121 (0, 0)), (Big []), Ob bl9 (.cells #[.func (.func 94) #[] #[.pointer (some ⟨bl10, 0, none⟩)]] 126 (0, 0)), Ob bl6 (.cells #[.func (.func 67) #[] #[]] 126 (0, 0)), (Big []), Ob bl22 (.cells #[.slice (some ⟨g19, 0, none⟩) (4) (4)] 138 (0, 0)), Ob g19 (.cells #[.func (.func 93) #[] #[.pointer (some ⟨bl6, 0, none⟩)], .func (.func 95) #[] #[.pointer (some ⟨bl9, 0, none⟩)], .func (.func 95) #[] #[.pointer (some ⟨bl13, 0, none⟩)], .func (.func 95) #[] #[.pointer (some ⟨bl16, 0, none⟩)]] 123 (0, 0)), Rw 102 10 pw1 ((srt Rv.zero c1 (l.filter qR)).length) cw1 (fl rvL (srt Rv.zero c1 (l.filter qR))), (Big []), Ob g1 (.cells #[.int .i64 round, .int .i64 slots, .string seed, .slice p n c] 114 (0, 0)), Old w no] := S.unbig (H42.takes [9, 0, 1, 2, 3, 4, 5, 6, 7, 8, 10, 11, 12, 13] (by decide))
 refine b_ret rfl rfl ?_
 have cm6 := H43.mask [false, false, false, false, false, false, false, false, false, false, false, false, false, true, false]
 refine y_k cm6 cm6 ?_
 refine w_y 9 rfl (wt0 rfl) rfl rfl rfl (by kernel_rfl) (fun _ => x_assign rfl rfl) ?_
 refine y_done (by kernel_rfl) ?_
 refine g_then ?_
 refine g_seq ?_
 refine g_anyY [] (fun wx => S wx [Ob g1 (.cells #[.int .i64 round, .int .i64 slots, .string seed, .slice p n c] 114 (0, 0))]) (fun wx => S wx [Ob g1 (.cells #[.int .i64 round, .int .i64 slots, .string seed, .slice p n c] 114 (0, 0))]) [] (by kernel_rfl) H43 (fun wq44 H45 => ?_)
 have cm7 := H45.mask [false, false, false, false, false, false, false, false, false, false, false, false, false, true, false]
 refine y_take (v := .agg #[.int .i64 round, .int .i64 slots, .string seed, .slice p n c]) 0 rfl (wt0 rfl) rfl rfl rfl (by kernel_rfl) (by kernel_rfl) (by kernel_rfl) (by kernel_rfl) (by kernel_rfl) cm7 (fun wx H => x_loadA H 0 rfl rfl Tryz.underlying114 rfl sz114 rfl rfl rfl) ?_
 refine w_y 1 rfl (wt0 rfl) rfl rfl rfl (by kernel_rfl) (fun _ => x_move rfl rfl) ?_
 refine w_y 2 rfl (wt0 rfl) rfl rfl rfl (by kernel_rfl) (fun _ => x_fieldAddr (off' := 1) rfl rfl fo114_1 rfl) ?_
 refine y_take (v := .int .i64 slots) 3 rfl (wt0 rfl) rfl rfl rfl (by kernel_rfl) (by kernel_rfl) (by kernel_rfl) (by kernel_rfl) (by kernel_rfl) cm7 (fun wx H => x_load1 H 0 rfl rfl Tryz.underlying3 rfl rfl rfl) ?_
 refine w_y (v := .int .i64 (slots - 1)) 4 rfl (wt0 rfl) rfl rfl rfl (by kernel_rfl) (fun _ => x_bin rfl rfl rfl (b_sub (w64 (by omega)))) ?_
 refine y_one (i := 5) (by kernel_rfl) rfl ?_
 refine s_call0 H45 (wt0 rfl) (x_call' rfl rfl cl75) (front_s (srt Rv.zero c1 (l.filter qR)) pw1 ((srt Rv.zero c1 (l.filter qR)).length) cw1 (by omega) (slots - 1) _ (H45.rwReads (k := 11) rfl)) rfl rfl ?_
 intro wq46 H47
 have cm8 := H47.mask [false, false, false, false, false, false, false, false, false, false, false, false, false, true, false]
 refine y_k cm8 cm8 ?_
 refine y_one (i := 6) (by kernel_rfl) rfl ?_
 have hct := List.length_take_le (min (srt Rv.zero c1 (l.filter qR)).length (slots - 1).toNat) (srt Rv.zero c1 (l.filter qR))
 refine s_call (wt0 rfl) (x_call' rfl rfl cl74) (clone_r ((srt Rv.zero c1 (l.filter qR)).take (min (srt Rv.zero c1 (l.filter qR)).length (slots - 1).toNat)) pw1 (min (srt Rv.zero c1 (l.filter qR)).length (slots - 1).toNat) cw1 (by omega) _ ((H47.rwReads (k := 11) rfl).takeL rvE (min (srt Rv.zero c1 (l.filter qR)).length (slots - 1).toNat) (Nat.min_le_left _ _))) ?_
 rintro _ wq48 ⟨pk1, ck1, rfl, H49⟩
 replace H49 : S wq48 [Rw 102 10 pk1 (((srt Rv.zero c1 (l.filter qR)).take (min (srt Rv.zero c1 (l.filter qR)).length (slots - 1).toNat)).length) ck1 (fl rvL ((srt Rv.zero c1 (l.filter qR)).take (min (srt Rv.zero c1 (l.filter qR)).length (slots - 1).toNat))), Ob bl16 (.cells #[.func (.func 72) #[] #[]] 126 (0, 0)), (Big []), Ob bl13 (.cells #[.func (.func 71) #[] #[]] 126 (0, 0)), (Big []), Ob bl10 (.cells #[.func (.func 69) #[] #[]] 121 (0, 0)), (Big []), Ob bl9 (.cells #[.func (.func 94) #[] #[.pointer (some ⟨bl10, 0, none⟩)]] 126 (0, 0)), Ob bl6 (.cells #[.func (.func 67) #[] #[]] 126 (0, 0)), (Big []), Ob bl22 (.cells #[.slice (some ⟨g19, 0, none⟩) (4) (4)] 138 (0, 0)), Ob g19 (.cells #[.func (.func 93) #[] #[.pointer (some ⟨bl6, 0, none⟩)], .func (.func 95) #[] #[.pointer (some ⟨bl9, 0, none⟩)], .func (.func 95) #[] #[.pointer (some ⟨bl13, 0, none⟩)], .func (.func 95) #[] #[.pointer (some ⟨bl16, 0, none⟩)]] 123 (0, 0)), Rw 102 10 pw1 ((srt Rv.zero c1 (l.filter qR)).length) cw1 (fl rvL (srt Rv.zero c1 (l.filter qR))), (Big []), Ob g1 (.cells #[.int .i64 round, .int .i64 slots, .string seed, .slice p n c] 114 (0, 0)), Old w no] := by have h := H47.absorb H49; exact h
 refine b_ret rfl rfl ?_
 have cm9 := H49.mask [false, false, false, false, false, false, false, false, false, false, false, false, false, false, true, false]
 refine y_k cm9 cm9 ?_
 refine y_one (i := 7) (by kernel_rfl) rfl ?_
 refine s_call (wt0 rfl) (x_call' rfl rfl cl73) (filled_s round slots seed hsd hrd l p n c (by omega) hval ((srt Rv.zero c1 (l.filter qR)).take (min (srt Rv.zero c1 (l.filter qR)).length (slots - 1).toNat)) pk1 ck1 (by omega) _ (H49.takes [0] (by decide)) (H49.apartOld (i := 15) (k := 0) rfl rfl (by decide) hr (by decide) (fun _ _ _ h => h)) (H49.tabA (i := 15) (k := 0) rfl rfl (by decide) ht)) ?_
 rintro _ wq50 ⟨pf1, cf1, rfl, H51⟩
 replace H51 : S wq50 [Rw 102 10 pf1 ((fillL slots ((srt Rv.zero c1 (l.filter qR)).take (min (srt Rv.zero c1 (l.filter qR)).length (slots - 1).toNat)) (optL round seed l)).length) cf1 (fl rvL (fillL slots ((srt Rv.zero c1 (l.filter qR)).take (min (srt Rv.zero c1 (l.filter qR)).length (slots - 1).toNat)) (optL round seed l))), Ob bl16 (.cells #[.func (.func 72) #[] #[]] 126 (0, 0)), (Big []), Ob bl13 (.cells #[.func (.func 71) #[] #[]] 126 (0, 0)), (Big []), Ob bl10 (.cells #[.func (.func 69) #[] #[]] 121 (0, 0)), (Big []), Ob bl9 (.cells #[.func (.func 94) #[] #[.pointer (some ⟨bl10, 0, none⟩)]] 126 (0, 0)), Ob bl6 (.cells #[.func (.func 67) #[] #[]] 126 (0, 0)), (Big []), Ob bl22 (.cells #[.slice (some ⟨g19, 0, none⟩) (4) (4)] 138 (0, 0)), Ob g19 (.cells #[.func (.func 93) #[] #[.pointer (some ⟨bl6, 0, none⟩)], .func (.func 95) #[] #[.pointer (some ⟨bl9, 0, none⟩)], .func (.func 95) #[] #[.pointer (some ⟨bl13, 0, none⟩)], .func (.func 95) #[] #[.pointer (some ⟨bl16, 0, none⟩)]] 123 (0, 0)), Rw 102 10 pw1 ((srt Rv.zero c1 (l.filter qR)).length) cw1 (fl rvL (srt Rv.zero c1 (l.filter qR))), (Big []), Ob g1 (.cells #[.int .i64 round, .int .i64 slots, .string seed, .slice p n c] 114 (0, 0)), Old w no] := by have h := H49.absorbI [0] H51; exact h
 refine b_ret rfl rfl ?_
 have cm10 := H51.mask [false, false, false, false, false, false, false, false, false, false, false, false, false, false, true, false]
 refine y_k cm10 cm10 ?_
 refine w_y 8 rfl (wt0 rfl) rfl rfl rfl (by kernel_rfl) (fun _ => x_assign rfl rfl) ?_
 refine y_done (by kernel_rfl) ?_
 refine g_then ?_
 refine g_weak [(2, .slice pf1 ((fillL slots ((srt Rv.zero c1 (l.filter qR)).take (min (srt Rv.zero c1 (l.filter qR)).length (slots - 1).toNat)) (optL round seed l)).length) cf1)] ⟨rfl, trivial⟩ ?_
 refine g_ret ?_
 refine fin_ret [.tmp 2] [.slice pf1 ((fillL slots ((srt Rv.zero c1 (l.filter qR)).take (min (srt Rv.zero c1 (l.filter qR)).length (slots - 1).toNat)) (optL round seed l)).length) cf1] rfl ⟨rfl, trivial⟩ ?_
 exact ⟨_, _, rfl, H51.takes [0, 15] (by decide)⟩
end Go.Proofs.YtpbjekdjebjbkaaGreat
namespace Go.Proofs.YtpbjekdjebjbkaaGreat
open Go.RowKit

theorem cl61 : callable Tryz.prog 61 = true := by kernel_rfl
noncomputable def ids1 (round slots : Int) (seed : ByteArray) (l : List Rv) : List Int := sortI ((way1 round slots seed l).map Rv.id)
noncomputable def rndE (round slots : Int) (seed : ByteArray) (l : List Rv) : Int := if ¬ askE seed l = 0 then askE seed l else if round < 0 ∨ slots < 0 ∨ 100 < slots then 7 else 0
noncomputable def got1 (round slots : Int) (seed : ByteArray) (l : List Rv) : List Int := if rndE round slots seed l = 0 then ids1 round slots seed l else []
theorem way1_len (round slots : Int) (seed : ByteArray) (l : List Rv) : (way1 round slots seed l).length ≤ l.length + l.length := by
  unfold way1 reg1
  have h1 := fill_len slots ((sorted1 l).take (min (sorted1 l).length (slots - 1).toNat)) (optL round seed l)
  have h2 := optL_len round seed l
  have h3 := sorted1_len l
  rw [List.length_take] at h1
  omega
set_option maxRecDepth 20000 in
set_option maxHeartbeats 4000000 in
set_option maxRecDepth 20000 in
set_option maxHeartbeats 4000000 in
theorem decided1_s (round slots : Int) (seed : ByteArray) (l : List Rv) (p : Option Addr) (n c : Nat) (hn2 : n ≤ 20) (hval : ∀ x ∈ l, validR x = true) (hsd : seed.size ≤ 200) (hrd : 0 ≤ round ∧ round ≤ 200) (hsl : 0 ≤ slots ∧ slots ≤ 100)  (w : World) (hr : Reads w p n c 10 (fl rvL l)) (ht : PowTab w) : Calls Tryz.prog 51 #[.int .i64 1, .int .i64 round, .int .i64 slots, .string seed, .slice p n c] w fun e w' => ∃ p' c', e = .returned (.slice p' (ids1 round slots seed l).length c') ∧ S w' ([Rw 3 1 p' (ids1 round slots seed l).length c' (fl intL (ids1 round slots seed l))] ++ [Old w no]) := by
  have H0 := S.old w
  have hnl := hr.lenL rvE
  have hwl := way1_len round slots seed l
  refine enter 22 Tryz.func51 rfl rfl rfl ?_
  refine g_weak [(0, .int .i64 1), (1, .int .i64 round), (2, .int .i64 slots), (3, .string seed), (4, .slice p n c)] ⟨rfl, rfl, rfl, rfl, rfl, trivial⟩ ?_
  refine g_seq ?_
  refine g_region ?_
  refine l_of (s_val (v := .slice none 0 0) (wt0 rfl) rfl rfl (x_assign rfl rfl) ?_)
  refine g_nil ?_
  refine g_then ?_
  refine g_seq ?_
  refine g_region ?_
  refine l_of (s_call (wt0 rfl) (x_call' rfl rfl cl56) (ways_s _) ?_)
  rintro _ wq1 ⟨rfl, H2⟩
  replace H2 : S wq1 [Old w no] := H0.absorb (new := []) H2
  refine b_ret rfl rfl ?_
  refine l_of (s_val (v := .int .i64 1) (wt0 rfl) rfl rfl (x_move rfl rfl) ?_)
  refine l_of (s_val (v := .int .i64 0) (wt0 rfl) rfl rfl (x_bin rfl rfl rfl (b_sub (r := 0) (by decide))) ?_)
  refine l_of (s_val (v := .func (.func 61) #[] #[]) (wt0 rfl) rfl rfl (x_indexW 0 rfl rfl rfl Tryz.underlying111 sz110 Tryz.underlying110 rfl ⟨by decide, by decide⟩ rfl) ?_)
  refine l_of (s_val (v := .int .i64 round) (wt0 rfl) rfl rfl (x_move rfl rfl) ?_)
  refine l_of (s_val (v := .int .i64 slots) (wt0 rfl) rfl rfl (x_move rfl rfl) ?_)
  refine l_of (s_val (v := .string seed) (wt0 rfl) rfl rfl (x_move rfl rfl) ?_)
  refine l_of (s_val (v := .slice p n c) (wt0 rfl) rfl rfl (x_move rfl rfl) ?_)
  refine l_of (s_val (v := .agg #[.int .i64 round, .int .i64 slots, .string seed, .slice p n c]) (wt0 rfl) rfl rfl (x_build (vs := [.int .i64 round, .int .i64 slots, .string seed, .slice p n c]) rfl rfl (cells := #[.int .i64 round, .int .i64 slots, .string seed, .slice p n c]) (by kernel_rfl)) ?_)
  refine l_of (s_call (wt0 rfl) (x_call rfl rfl rfl cl61) (way1_s round slots seed l p n c hn2 hval hsd hrd hsl _ (H2.exReads (k := 0) rfl hr (fun _ _ _ h => h)) (H2.tab (k := 0) rfl ht)) ?_)
  rintro _ wq3 ⟨pw, cw, rfl, H4⟩
  replace H4 : S wq3 [Rw 102 10 pw ((way1 round slots seed l).length) cw (fl rvL (way1 round slots seed l)), Old w no] := H2.absorb (new := [Rw 102 10 pw ((way1 round slots seed l).length) cw (fl rvL (way1 round slots seed l))]) H4
  refine b_ret rfl rfl ?_
  refine l_of (s_call (wt0 rfl) (x_call' rfl rfl cl55) (ids_s (way1 round slots seed l) pw ((way1 round slots seed l).length) cw (by omega) _ (H4.rwReads (k := 0) rfl)) ?_)
  rintro _ wq7 ⟨p5, c6, rfl, H8⟩
  replace H8 : S wq7 [Rw 3 1 p5 ((sortI ((way1 round slots seed l).map Rv.id)).length) c6 (fl intL (sortI ((way1 round slots seed l).map Rv.id))), Rw 102 10 pw ((way1 round slots seed l).length) cw (fl rvL (way1 round slots seed l)), Old w no] := H4.absorb (new := [Rw 3 1 p5 ((sortI ((way1 round slots seed l).map Rv.id)).length) c6 (fl intL (sortI ((way1 round slots seed l).map Rv.id)))]) H8
  refine b_ret rfl rfl ?_
  refine l_of (s_val (v := .slice p5 ((sortI ((way1 round slots seed l).map Rv.id)).length) c6) (wt0 rfl) rfl rfl (x_assign rfl rfl) ?_)
  refine g_nil ?_
  refine g_then ?_
  refine g_weak [(10, .slice p5 ((sortI ((way1 round slots seed l).map Rv.id)).length) c6)] ⟨rfl, trivial⟩ ?_
  refine g_ret ?_
  refine fin_ret [.tmp 10] [.slice p5 ((sortI ((way1 round slots seed l).map Rv.id)).length) c6] rfl ⟨rfl, trivial⟩ ?_
  exact ⟨_, _, rfl, H8.takes [0, 2] (by decide)⟩
end Go.Proofs.YtpbjekdjebjbkaaGreat
