import Derived.Test.YtdkfkdekiljcoaaGreatRL
set_option linter.unusedSimpArgs false
set_option linter.unusedVariables false
namespace Go.Proofs.YtdkfkdekiljcoaaGreat
open Go.RowKit

theorem cl11 : callable Tryz.prog 11 = true := by kernel_rfl
theorem cl14 : callable Tryz.prog 14 = true := by kernel_rfl
theorem cl15 : callable Tryz.prog 15 = true := by kernel_rfl
theorem cl5 : callable Tryz.prog 5 = true := by kernel_rfl
theorem cl6 : callable Tryz.prog 6 = true := by kernel_rfl
theorem cl7 : callable Tryz.prog 7 = true := by kernel_rfl
theorem cl9 : callable Tryz.prog 9 = true := by kernel_rfl
theorem sz23 : szO Tryz.prog 23 = some 5 := by kernel_rfl
set_option maxRecDepth 20000 in
set_option maxHeartbeats 4000000 in
theorem steps_law (n p l q : Int) (ft : Bool) (ls : List Sn) (pl : Option Addr) (cl : Nat) (hm : ls.length ≤ 9223372036854775807) (w : World) (hr : Reads w pl ls.length cl 9 (snV ls)) : Calls Tryz.prog 4 #[.agg #[.int .i64 n, .int .i64 p, .int .i64 l, .int .i64 q, .bool ft], .slice pl ls.length cl] w fun e w' => e = .returned (.bool true) ∧ S w' [Old w no] := by
 have H0 := S.old w
 refine enter 113 Tryz.func4 rfl rfl rfl ?_
 refine g_weak [(0, .agg #[.int .i64 n, .int .i64 p, .int .i64 l, .int .i64 q, .bool ft]), (1, .slice pl ls.length cl)] ⟨rfl, rfl, trivial⟩ ?_
 refine w_s ?_
 refine l_of (s_box H0 (wt0 rfl) rfl rfl rfl rfl ?_)
 intro g1 wq2 H3
 refine w_a ?_
 refine w_e ?_
 refine g_seq ?_
 refine w_s ?_
 refine w_m ?_
 refine l_of (s_call (wt0 rfl) (x_call' rfl rfl cl5) (light_s ls pl cl hm _ (H3.oldReads (k := 1) rfl hr)) ?_)
 rintro _ wq4 ⟨bl, rfl, hbl, H5⟩
 replace H5 : S wq4 [Ob g1 (.cells #[.int .i64 n, .int .i64 p, .int .i64 l, .int .i64 q, .bool ft] 23 (0, 0)), Old w no] := H3.absorb (new := []) H5
 refine b_ret rfl rfl ?_
 refine w_v (v := .bool (!bl)) (x_not (b := bl) rfl rfl) ?_
 refine w_e ?_
 rcases Bool.eq_false_or_eq_true (bl) with hb6 | hb6
 ·
  have h60 := hbl hb6
  refine g_cond_f rfl (neg_of hb6) ?_
  refine g_skip ?_
  refine g_then ?_
  refine w_s ?_
  refine w_v (v := .agg #[.int .i64 n, .int .i64 p, .int .i64 l, .int .i64 q, .bool ft]) (x_loadA H5 0 rfl rfl Tryz.underlying23 rfl sz23 rfl rfl rfl) ?_
  by_cases hg : goodU n p l q
  ·
   refine l_of (s_call (wt0 rfl) (x_call' rfl rfl cl7) (begin_ok n p l q ft hg _) ?_)
   rintro _ wq7 ⟨sg, B0, B1, rg, C0, C1, rfl, H8⟩
   replace H8 : S wq7 [sgI sg (Co.mk n p l q ft) true B1 B0 (Wy.new n) (Wy.new n), alI B1 (Wy.new n), waI B1 (Wy.new n), goI B1 (Wy.new n), alI B0 (Wy.new n), waI B0 (Wy.new n), goI B0 (Wy.new n), rgI rg (Co.mk n p l q ft) true C1 C0 (Wy.new n) (Wy.new n), alR C1 (Wy.new n), rqI C1 (Wy.new n), alR C0 (Wy.new n), rqI C0 (Wy.new n), Ob g1 (.cells #[.int .i64 n, .int .i64 p, .int .i64 l, .int .i64 q, .bool ft] 23 (0, 0)), Old w no] := H5.absorb (new := [sgI sg (Co.mk n p l q ft) true B1 B0 (Wy.new n) (Wy.new n), alI B1 (Wy.new n), waI B1 (Wy.new n), goI B1 (Wy.new n), alI B0 (Wy.new n), waI B0 (Wy.new n), goI B0 (Wy.new n), rgI rg (Co.mk n p l q ft) true C1 C0 (Wy.new n) (Wy.new n), alR C1 (Wy.new n), rqI C1 (Wy.new n), alR C0 (Wy.new n), rqI C0 (Wy.new n)]) H8
   have hn : 1 ≤ (Co.mk n p l q ft).n ∧ (Co.mk n p l q ft).n ≤ 4096 := ⟨hg.1, hg.2.1⟩
   have hw00 : WK (Co.mk n p l q ft) 0 (Wy.new n) := WK.new (c := (Co.mk n p l q ft)) (show 0 ≤ n ∧ n ≤ 4096 from ⟨by have := hg.1; omega, hg.2.1⟩)
   refine b_ret rfl rfl ?_
   refine w_r9 ?_
   refine w_e ?_
   refine g_weak [(1, .slice pl ls.length cl), (5, .pointer (some ⟨sg, 0, none⟩)), (6, .pointer (some ⟨rg, 0, none⟩)), (7, .bool true), (8, .bool true)] ⟨rfl, rfl, rfl, rfl, rfl, trivial⟩ ?_
   refine g_seq ?_
   refine w_s ?_
   refine w_m ?_
   refine w_v (v := .bool false) (x_not (b := true) rfl rfl) ?_
   refine w_m ?_
   refine w_g rfl xm ?_
   refine w_g (v := .bool false) rfl (x_not (b := true) rfl rfl) ?_
   refine w_v (v := .bool false) (x_pick_f rfl rfl rfl rfl) ?_
   refine w_e ?_
   refine g_cond_f rfl rfl ?_
   refine g_skip ?_
   refine g_then ?_
   refine g_seq ?_
   refine w_s ?_
   refine w_m ?_
   refine w_v (v := .int .i64 ((ls.length : Int))) (x_lenl rfl rfl Tryz.underlying24) ?_
   refine w_m ?_
   refine w_e ?_
   refine g_block ?_
   refine g_loop (ι := Nat × Wy × Wy × Ad × Ad × RAd × RAd) (fun (k, a0, a1, A0, A1, R0, R1) => [(5, .pointer (some ⟨sg, 0, none⟩)), (6, .pointer (some ⟨rg, 0, none⟩)), (37, .slice pl ls.length cl), (38, .int .i64 ((ls.length : Int))), (39, .int .i64 ((k : Int)))]) (fun (k, a0, a1, A0, A1, R0, R1) wx => (k ≤ ls.length) ∧ (WK (Co.mk n p l q ft) k a0) ∧ (WK (Co.mk n p l q ft) k a1) ∧ S wx [sgI sg (Co.mk n p l q ft) true A1 A0 a1 a0, alI A1 a1, waI A1 a1, goI A1 a1, alI A0 a0, waI A0 a0, goI A0 a0, rgI rg (Co.mk n p l q ft) true R1 R0 a1 a0, alR R1 a1, rqI R1 a1, alR R0 a0, rqI R0 a0, Ob g1 (.cells #[.int .i64 n, .int .i64 p, .int .i64 l, .int .i64 q, .bool ft] 23 (0, 0)), Old w no]) (fun (k, a0, a1, A0, A1, R0, R1) => ls.length - k) (0, (Wy.new n), (Wy.new n), B0, B1, C0, C1) ⟨rfl, rfl, rfl, rfl, rfl, trivial⟩ ⟨Nat.zero_le _, hw00, hw00, (H8.takes [0, 1, 2, 3, 4, 5, 6, 7, 8, 9, 10, 11, 12, 13] (by decide))⟩ ?_
   rintro ⟨k, a0, a1, A0, A1, R0, R1⟩ wq9 ⟨hk, hw0, hw1, H10⟩
   refine g_weak [(5, .pointer (some ⟨sg, 0, none⟩)), (6, .pointer (some ⟨rg, 0, none⟩)), (37, .slice pl ls.length cl), (38, .int .i64 ((ls.length : Int))), (39, .int .i64 ((k : Int)))] ⟨rfl, rfl, rfl, rfl, rfl, trivial⟩ ?_
   refine w_s ?_
   refine w_b ?_
   refine w_e ?_
   refine g_seq ?_
   by_cases hb11 : ((k : Int) : Int) < (ls.length : Int)
   ·
    refine g_cond_t rfl (decide_eq_true hb11) ?_
    refine g_skip ?_
    refine g_then ?_
    refine g_seq ?_
    refine g_block ?_
    refine w_s ?_
    refine w_v (v := .pointer ((pl).map fun q => q.add (k * 9))) (x_idxR k (H10.oldReads (k := 13) rfl hr) rfl rfl rfl Tryz.underlying24 sz28 (by omega)) ?_
    rcases hsn : ls.getD k S0 with ⟨o, m⟩
    cases o
    ·
     refine w_v (v := .agg #[.bool false, .int .i64 (m.kind), .int .i64 (m.i1), .int .i64 (m.i2), .int .i64 (m.i3), .int .i64 (m.i4), .int .i64 (m.i5), .string (m.root), .string (m.data)]) (x_loadRA (vs := snL ⟨false, m⟩) k (H10.oldReads (k := 13) rfl hr) (by omega) rfl rfl Tryz.underlying28 rfl sz28 (by rfl) (by rw [← hsn]; exact snV_at (by omega))) ?_
     refine l_of (s_alloc H10 (wt0 rfl) rfl rfl rfl ze28 ?_)
     intro g12 wq13 H14
     refine l_of (w_st #[.bool false, .int .i64 (m.kind), .int .i64 (m.i1), .int .i64 (m.i2), .int .i64 (m.i3), .int .i64 (m.i4), .int .i64 (m.i5), .string (m.root), .string (m.data)] H14 0 ?_)
     intro wq15 H16
     refine w_e ?_
     refine w_s ?_
     refine w_r2 ?_
     refine w_1 H16 0 ?_
     refine w_f 1 ?_
     refine w_v (v := .agg m.cells) (x_loadA H16 0 rfl rfl Tryz.underlying26 rfl sz26 rfl rfl rfl) ?_
     refine l_of (s_callK H16 [1, 5, 6, 7, 2, 3, 4] [7, 0, 4, 5, 6, 1, 2, 3, 8, 9, 10, 11, 12, 13, 14] (by decide) rfl (wt0 rfl) (x_call' rfl rfl cl12) (fun _ => may_o sg (Co.mk n p l q ft) false A0 A1 a0 a1 m hn (hw0.wok (by omega)) (hw1.wok (by omega)) _ (H16.takes [1, 5, 6, 7, 2, 3, 4] (by decide))) (by decide) rfl rfl ?_)
     intro wq17 H19
     refine w_a ?_
     refine w_e ?_
     refine g_seq ?_
     refine w_s ?_
     refine w_r3 ?_
     refine w_1 H19 0 ?_
     refine w_f 1 ?_
     refine w_v (v := .agg m.cells) (x_loadA H19 0 rfl rfl Tryz.underlying26 rfl sz26 rfl rfl rfl) ?_
     refine l_of (s_callK H19 [8, 11, 12, 9, 10] [5, 6, 7, 8, 9, 10, 11, 12, 0, 3, 4, 1, 2, 13, 14] (by decide) rfl (wt0 rfl) (x_call' rfl rfl cl13) (fun _ => mayR_o rg (Co.mk n p l q ft) false R0 R1 a0 a1 m hn hw0.V hw1.V (hw0.wok (by omega)).al (hw0.wok (by omega)).wa (hw1.wok (by omega)).wa _ (H19.takes [8, 11, 12, 9, 10] (by decide))) (by decide) rfl rfl ?_)
     intro wq20 H22
     refine w_b (v := .bool (!decide (((mayE (Co.mk n p l q ft) a0 a1 m) : Int) = (mayE (Co.mk n p l q ft) a0 a1 m)))) (hb := b_neq) ?_
     refine w_m ?_
     refine w_g (nf rfl) xm ?_
     refine w_g (nf rfl) (xf 0) ?_
     refine w_g (nf rfl) (xl H22 0) ?_
     refine w_g (nf rfl) (xf 1) ?_
     refine w_g (v := .agg m.cells) (nf rfl) (x_loadA H22 0 rfl rfl Tryz.underlying26 rfl sz26 rfl rfl rfl) ?_
     refine l_of (s_call (wt1 rfl rfl rfl rfl (nf rfl)) (x_call' rfl rfl cl8) (stepF_o sg (Co.mk n p l q ft) false A0 A1 a0 a1 m hn (hw0.wok (by omega)) (hw1.wok (by omega)) _ (H22.takes [1, 5, 6, 7, 2, 3, 4] (by decide))) ?_)
     rintro _ wq25 ⟨A23, A24, rfl, H26⟩
     replace H26 : S wq25 [sgI sg (Co.mk n p l q ft) true A24 A23 (mayQ (Co.mk n p l q ft) a0 a1 m) (mayO (Co.mk n p l q ft) a0 a1 m), alI A23 (mayO (Co.mk n p l q ft) a0 a1 m), waI A23 (mayO (Co.mk n p l q ft) a0 a1 m), goI A23 (mayO (Co.mk n p l q ft) a0 a1 m), alI A24 (mayQ (Co.mk n p l q ft) a0 a1 m), waI A24 (mayQ (Co.mk n p l q ft) a0 a1 m), goI A24 (mayQ (Co.mk n p l q ft) a0 a1 m), Ob g12 (.cells #[.bool false, .int .i64 (m.kind), .int .i64 (m.i1), .int .i64 (m.i2), .int .i64 (m.i3), .int .i64 (m.i4), .int .i64 (m.i5), .string (m.root), .string (m.data)] 28 (0, 0)), rgI rg (Co.mk n p l q ft) true R1 R0 a1 a0, alR R1 a1, rqI R1 a1, alR R0 a0, rqI R0 a0, Ob g1 (.cells #[.int .i64 n, .int .i64 p, .int .i64 l, .int .i64 q, .bool ft] 23 (0, 0)), Old w no] := by have h := H22.absorbI [1, 5, 6, 7, 2, 3, 4] H26; exact h
     refine b_ret rfl rfl ?_
     refine w_g (nf rfl) xm ?_
     refine w_g (v := .bool (!decide (((mayE (Co.mk n p l q ft) a0 a1 m) : Int) = (mayE (Co.mk n p l q ft) a0 a1 m)))) (nf rfl) (x_bin rfl rfl rfl b_neq) ?_
     refine w_v (v := .bool (!decide (((mayE (Co.mk n p l q ft) a0 a1 m) : Int) = (mayE (Co.mk n p l q ft) a0 a1 m)))) (x_pick_f rfl rfl (nf rfl) rfl) ?_
     refine w_e ?_
     refine g_weak [(5, .pointer (some ⟨sg, 0, none⟩)), (6, .pointer (some ⟨rg, 0, none⟩)), (10, .pointer (some ⟨g12, 0, none⟩)), (37, .slice pl ls.length cl), (38, .int .i64 ((ls.length : Int))), (39, .int .i64 ((k : Int))), (66, .bool (!decide (((mayE (Co.mk n p l q ft) a0 a1 m) : Int) = (mayE (Co.mk n p l q ft) a0 a1 m))))] ⟨rfl, rfl, rfl, rfl, rfl, rfl, rfl, trivial⟩ ?_
     refine g_cond_f rfl (nf rfl) ?_
     refine g_skip ?_
     refine g_then ?_
     refine w_s ?_
     refine w_r2 ?_
     refine w_1 H26 7 ?_
     refine w_f 1 ?_
     refine w_v (v := .agg m.cells) (x_loadA H26 7 rfl rfl Tryz.underlying26 rfl sz26 rfl rfl rfl) ?_
     have hw29 := hw0.mayO (a := a0) (b := a1) (m := m) hn
     have hw30 := hw1.mayQ (a := a0) (b := a1) (m := m) hn
     refine l_of (s_call (wt0 rfl) (x_call' rfl rfl cl9) (stepR_o rg (Co.mk n p l q ft) false R0 R1 a0 a1 m k (by omega) hn hw0 hw1 _ (H26.takes [8, 11, 12, 9, 10] (by decide))) ?_)
     rintro _ wq31 ⟨R27, R28, rfl, H32⟩
     replace H32 : S wq31 [rgI rg (Co.mk n p l q ft) true R28 R27 (mayQ (Co.mk n p l q ft) a0 a1 m) (mayO (Co.mk n p l q ft) a0 a1 m), alR R27 (mayO (Co.mk n p l q ft) a0 a1 m), rqI R27 (mayO (Co.mk n p l q ft) a0 a1 m), alR R28 (mayQ (Co.mk n p l q ft) a0 a1 m), rqI R28 (mayQ (Co.mk n p l q ft) a0 a1 m), sgI sg (Co.mk n p l q ft) true A24 A23 (mayQ (Co.mk n p l q ft) a0 a1 m) (mayO (Co.mk n p l q ft) a0 a1 m), alI A23 (mayO (Co.mk n p l q ft) a0 a1 m), waI A23 (mayO (Co.mk n p l q ft) a0 a1 m), goI A23 (mayO (Co.mk n p l q ft) a0 a1 m), alI A24 (mayQ (Co.mk n p l q ft) a0 a1 m), waI A24 (mayQ (Co.mk n p l q ft) a0 a1 m), goI A24 (mayQ (Co.mk n p l q ft) a0 a1 m), Ob g12 (.cells #[.bool false, .int .i64 (m.kind), .int .i64 (m.i1), .int .i64 (m.i2), .int .i64 (m.i3), .int .i64 (m.i4), .int .i64 (m.i5), .string (m.root), .string (m.data)] 28 (0, 0)), Ob g1 (.cells #[.int .i64 n, .int .i64 p, .int .i64 l, .int .i64 q, .bool ft] 23 (0, 0)), Old w no] := by have h := H26.absorbI [8, 11, 12, 9, 10] H32; exact h
     refine b_ret rfl rfl ?_
     refine w_e ?_
     refine g_seq ?_
     refine w_s ?_
     refine w_r2 ?_
     refine l_of (s_callK H32 [5, 9, 10, 11, 6, 7, 8, 0, 3, 4, 1, 2] [7, 10, 11, 8, 9, 0, 4, 5, 6, 1, 2, 3, 12, 13, 14] (by decide) rfl (wt0 rfl) (x_call' rfl rfl cl11) (fun _ => same_o sg rg (Co.mk n p l q ft) true A24 A23 R28 R27 (mayQ (Co.mk n p l q ft) a0 a1 m) (mayO (Co.mk n p l q ft) a0 a1 m) (hw30.wok (by omega)) (hw29.wok (by omega)) hw30.ok _ (H32.takes [5, 9, 10, 11, 6, 7, 8, 0, 3, 4, 1, 2] (by decide))) (by decide) rfl rfl ?_)
     intro wq33 H35
     refine w_v (v := .bool false) (x_not (b := true) rfl rfl) ?_
     refine w_m ?_
     refine w_g rfl xm ?_
     refine w_g rfl xm ?_
     refine l_of (s_callK H35 [5, 6, 7, 8, 9, 10, 11, 0, 1, 2, 3, 4] [7, 8, 9, 10, 11, 0, 1, 2, 3, 4, 5, 6, 12, 13, 14] (by decide) rfl (wt1 rfl rfl rfl rfl rfl) (x_call' rfl rfl cl11) (fun _ => same_o sg rg (Co.mk n p l q ft) false A23 A24 R27 R28 (mayO (Co.mk n p l q ft) a0 a1 m) (mayQ (Co.mk n p l q ft) a0 a1 m) (hw29.wok (by omega)) (hw30.wok (by omega)) hw29.ok _ (H35.takes [5, 6, 7, 8, 9, 10, 11, 0, 1, 2, 3, 4] (by decide))) (by decide) rfl rfl ?_)
     intro wq36 H38
     refine w_g (v := .bool false) rfl (x_not (b := true) rfl rfl) ?_
     refine w_v (v := .bool false) (x_pick_f rfl rfl rfl rfl) ?_
     refine w_e ?_
     refine g_weak [(5, .pointer (some ⟨sg, 0, none⟩)), (6, .pointer (some ⟨rg, 0, none⟩)), (10, .pointer (some ⟨g12, 0, none⟩)), (37, .slice pl ls.length cl), (38, .int .i64 ((ls.length : Int))), (39, .int .i64 ((k : Int))), (82, .bool false)] ⟨rfl, rfl, rfl, rfl, rfl, rfl, rfl, trivial⟩ ?_
     refine g_cond_f rfl rfl ?_
     refine g_skip ?_
     refine g_then ?_
     refine w_s ?_
     refine w_r2 ?_
     refine w_1 H38 12 ?_
     refine w_r2 ?_
     refine w_1 H38 12 ?_
     refine l_of (s_callK H38 [5, 6, 7, 8, 9, 10, 11] [7, 8, 9, 10, 11, 0, 1, 2, 3, 4, 5, 6, 12, 13, 14] (by decide) rfl (wt0 rfl) (x_call' rfl rfl cl14) (fun _ => hasS_o sg (Co.mk n p l q ft) false A23 A24 (mayO (Co.mk n p l q ft) a0 a1 m) (mayQ (Co.mk n p l q ft) a0 a1 m) m.i1 hn (hw29.wok (by omega)) (hw30.wok (by omega)) _ (H38.takes [5, 6, 7, 8, 9, 10, 11] (by decide))) (by decide) rfl rfl ?_)
     intro wq39 H41
     refine w_r5 ?_
     refine w_e ?_
     refine w_s ?_
     refine w_r2 ?_
     refine w_1 H41 12 ?_
     refine w_r2 ?_
     refine w_1 H41 12 ?_
     refine l_of (s_callK H41 [0, 1, 2, 3, 4] [0, 1, 2, 3, 4, 5, 6, 7, 8, 9, 10, 11, 12, 13, 14] (by decide) rfl (wt0 rfl) (x_call' rfl rfl cl15) (fun _ => hasR_o rg (Co.mk n p l q ft) false R27 R28 (mayO (Co.mk n p l q ft) a0 a1 m) (mayQ (Co.mk n p l q ft) a0 a1 m) m.i1 ⟨by have := hn.1; omega, hn.2⟩ hw29.V _ (H41.takes [0, 1, 2, 3, 4] (by decide))) (by decide) rfl rfl ?_)
     intro wq42 H44
     refine w_r5 ?_
     refine w_e ?_
     refine g_weak [(5, .pointer (some ⟨sg, 0, none⟩)), (6, .pointer (some ⟨rg, 0, none⟩)), (12, .bool ((hasB (Co.mk n p l q ft).n.toNat (mayO (Co.mk n p l q ft) a0 a1 m).fd m.i1))), (13, .int .i64 ((hasE (Co.mk n p l q ft).n.toNat m.i1))), (14, .bool ((hasB (Co.mk n p l q ft).n.toNat (mayO (Co.mk n p l q ft) a0 a1 m).fd m.i1))), (15, .int .i64 ((hasE (Co.mk n p l q ft).n.toNat m.i1))), (37, .slice pl ls.length cl), (38, .int .i64 ((ls.length : Int))), (39, .int .i64 ((k : Int)))] ⟨rfl, rfl, rfl, rfl, rfl, rfl, rfl, rfl, rfl, trivial⟩ ?_
     refine w_s ?_
     refine w_r2 ?_
     refine w_b (v := .bool (!(((hasB (Co.mk n p l q ft).n.toNat (mayO (Co.mk n p l q ft) a0 a1 m).fd m.i1)) == ((hasB (Co.mk n p l q ft).n.toNat (mayO (Co.mk n p l q ft) a0 a1 m).fd m.i1))))) (hb := (b_neN Tryz.underlying4 rfl)) ?_
     refine w_m ?_
     refine w_g (neg_of (beq_self_eq_true ((hasB (Co.mk n p l q ft).n.toNat (mayO (Co.mk n p l q ft) a0 a1 m).fd m.i1)))) xm ?_
     refine w_g (neg_of (beq_self_eq_true ((hasB (Co.mk n p l q ft).n.toNat (mayO (Co.mk n p l q ft) a0 a1 m).fd m.i1)))) xm ?_
     refine w_g (v := .bool (!decide (((hasE (Co.mk n p l q ft).n.toNat m.i1) : Int) = (hasE (Co.mk n p l q ft).n.toNat m.i1)))) (neg_of (beq_self_eq_true ((hasB (Co.mk n p l q ft).n.toNat (mayO (Co.mk n p l q ft) a0 a1 m).fd m.i1)))) (x_bin rfl rfl rfl b_neq) ?_
     refine w_v (v := .bool (!decide (((hasE (Co.mk n p l q ft).n.toNat m.i1) : Int) = (hasE (Co.mk n p l q ft).n.toNat m.i1)))) (x_pick_f rfl rfl (neg_of (beq_self_eq_true ((hasB (Co.mk n p l q ft).n.toNat (mayO (Co.mk n p l q ft) a0 a1 m).fd m.i1)))) rfl) ?_
     refine w_e ?_
     refine g_cond_f rfl (nf rfl) ?_
     refine g_skip ?_
     refine g_in ?_
     refine g_then ?_
     refine g_weak [(5, .pointer (some ⟨sg, 0, none⟩)), (6, .pointer (some ⟨rg, 0, none⟩)), (37, .slice pl ls.length cl), (38, .int .i64 ((ls.length : Int))), (39, .int .i64 ((k : Int)))] ⟨rfl, rfl, rfl, rfl, rfl, trivial⟩ ?_
     refine g_region ?_
     refine w_b (v := .int .i64 ((k : Int) + 1)) (hb := (b_add (w64 (by omega)))) ?_
     refine w_m ?_
     refine w_e ?_
     refine g_round (i := (k, a0, a1, A0, A1, R0, R1)) ((k + 1), (mayO (Co.mk n p l q ft) a0 a1 m), (mayQ (Co.mk n p l q ft) a0 a1 m), A23, A24, R27, R28) ?_ ?_ ?_
     · exact ⟨rfl, rfl, rfl, rfl, rfl, trivial⟩
     · exact ⟨by omega, hw29, hw30, (H44.takes [5, 9, 10, 11, 6, 7, 8, 0, 3, 4, 1, 2, 13, 14] (by decide))⟩
     · (try dsimp only); omega
    ·
     refine w_v (v := .agg #[.bool true, .int .i64 (m.kind), .int .i64 (m.i1), .int .i64 (m.i2), .int .i64 (m.i3), .int .i64 (m.i4), .int .i64 (m.i5), .string (m.root), .string (m.data)]) (x_loadRA (vs := snL ⟨true, m⟩) k (H10.oldReads (k := 13) rfl hr) (by omega) rfl rfl Tryz.underlying28 rfl sz28 (by rfl) (by rw [← hsn]; exact snV_at (by omega))) ?_
     refine l_of (s_alloc H10 (wt0 rfl) rfl rfl rfl ze28 ?_)
     intro g45 wq46 H47
     refine l_of (w_st #[.bool true, .int .i64 (m.kind), .int .i64 (m.i1), .int .i64 (m.i2), .int .i64 (m.i3), .int .i64 (m.i4), .int .i64 (m.i5), .string (m.root), .string (m.data)] H47 0 ?_)
     intro wq48 H49
     refine w_e ?_
     refine w_s ?_
     refine w_r2 ?_
     refine w_1 H49 0 ?_
     refine w_f 1 ?_
     refine w_v (v := .agg m.cells) (x_loadA H49 0 rfl rfl Tryz.underlying26 rfl sz26 rfl rfl rfl) ?_
     refine l_of (s_callK H49 [1, 2, 3, 4, 5, 6, 7] [7, 0, 1, 2, 3, 4, 5, 6, 8, 9, 10, 11, 12, 13, 14] (by decide) rfl (wt0 rfl) (x_call' rfl rfl cl12) (fun _ => may_o sg (Co.mk n p l q ft) true A1 A0 a1 a0 m hn (hw1.wok (by omega)) (hw0.wok (by omega)) _ (H49.takes [1, 2, 3, 4, 5, 6, 7] (by decide))) (by decide) rfl rfl ?_)
     intro wq50 H52
     refine w_a ?_
     refine w_e ?_
     refine g_seq ?_
     refine w_s ?_
     refine w_r3 ?_
     refine w_1 H52 0 ?_
     refine w_f 1 ?_
     refine w_v (v := .agg m.cells) (x_loadA H52 0 rfl rfl Tryz.underlying26 rfl sz26 rfl rfl rfl) ?_
     refine l_of (s_callK H52 [8, 9, 10, 11, 12] [5, 6, 7, 8, 9, 10, 11, 12, 0, 1, 2, 3, 4, 13, 14] (by decide) rfl (wt0 rfl) (x_call' rfl rfl cl13) (fun _ => mayR_o rg (Co.mk n p l q ft) true R1 R0 a1 a0 m hn hw1.V hw0.V (hw1.wok (by omega)).al (hw1.wok (by omega)).wa (hw0.wok (by omega)).wa _ (H52.takes [8, 9, 10, 11, 12] (by decide))) (by decide) rfl rfl ?_)
     intro wq53 H55
     refine w_b (v := .bool (!decide (((mayE (Co.mk n p l q ft) a1 a0 m) : Int) = (mayE (Co.mk n p l q ft) a1 a0 m)))) (hb := b_neq) ?_
     refine w_m ?_
     refine w_g (nf rfl) xm ?_
     refine w_g (nf rfl) (xf 0) ?_
     refine w_g (nf rfl) (xl H55 0) ?_
     refine w_g (nf rfl) (xf 1) ?_
     refine w_g (v := .agg m.cells) (nf rfl) (x_loadA H55 0 rfl rfl Tryz.underlying26 rfl sz26 rfl rfl rfl) ?_
     refine l_of (s_call (wt1 rfl rfl rfl rfl (nf rfl)) (x_call' rfl rfl cl8) (stepF_o sg (Co.mk n p l q ft) true A1 A0 a1 a0 m hn (hw1.wok (by omega)) (hw0.wok (by omega)) _ (H55.takes [1, 2, 3, 4, 5, 6, 7] (by decide))) ?_)
     rintro _ wq58 ⟨A57, A56, rfl, H59⟩
     replace H59 : S wq58 [sgI sg (Co.mk n p l q ft) true A57 A56 (mayO (Co.mk n p l q ft) a1 a0 m) (mayQ (Co.mk n p l q ft) a1 a0 m), alI A57 (mayO (Co.mk n p l q ft) a1 a0 m), waI A57 (mayO (Co.mk n p l q ft) a1 a0 m), goI A57 (mayO (Co.mk n p l q ft) a1 a0 m), alI A56 (mayQ (Co.mk n p l q ft) a1 a0 m), waI A56 (mayQ (Co.mk n p l q ft) a1 a0 m), goI A56 (mayQ (Co.mk n p l q ft) a1 a0 m), Ob g45 (.cells #[.bool true, .int .i64 (m.kind), .int .i64 (m.i1), .int .i64 (m.i2), .int .i64 (m.i3), .int .i64 (m.i4), .int .i64 (m.i5), .string (m.root), .string (m.data)] 28 (0, 0)), rgI rg (Co.mk n p l q ft) true R1 R0 a1 a0, alR R1 a1, rqI R1 a1, alR R0 a0, rqI R0 a0, Ob g1 (.cells #[.int .i64 n, .int .i64 p, .int .i64 l, .int .i64 q, .bool ft] 23 (0, 0)), Old w no] := by have h := H55.absorbI [1, 2, 3, 4, 5, 6, 7] H59; exact h
     refine b_ret rfl rfl ?_
     refine w_g (nf rfl) xm ?_
     refine w_g (v := .bool (!decide (((mayE (Co.mk n p l q ft) a1 a0 m) : Int) = (mayE (Co.mk n p l q ft) a1 a0 m)))) (nf rfl) (x_bin rfl rfl rfl b_neq) ?_
     refine w_v (v := .bool (!decide (((mayE (Co.mk n p l q ft) a1 a0 m) : Int) = (mayE (Co.mk n p l q ft) a1 a0 m)))) (x_pick_f rfl rfl (nf rfl) rfl) ?_
     refine w_e ?_
     refine g_weak [(5, .pointer (some ⟨sg, 0, none⟩)), (6, .pointer (some ⟨rg, 0, none⟩)), (10, .pointer (some ⟨g45, 0, none⟩)), (37, .slice pl ls.length cl), (38, .int .i64 ((ls.length : Int))), (39, .int .i64 ((k : Int))), (66, .bool (!decide (((mayE (Co.mk n p l q ft) a1 a0 m) : Int) = (mayE (Co.mk n p l q ft) a1 a0 m))))] ⟨rfl, rfl, rfl, rfl, rfl, rfl, rfl, trivial⟩ ?_
     refine g_cond_f rfl (nf rfl) ?_
     refine g_skip ?_
     refine g_then ?_
     refine w_s ?_
     refine w_r2 ?_
     refine w_1 H59 7 ?_
     refine w_f 1 ?_
     refine w_v (v := .agg m.cells) (x_loadA H59 7 rfl rfl Tryz.underlying26 rfl sz26 rfl rfl rfl) ?_
     have hw63 := hw1.mayO (a := a1) (b := a0) (m := m) hn
     have hw62 := hw0.mayQ (a := a1) (b := a0) (m := m) hn
     refine l_of (s_call (wt0 rfl) (x_call' rfl rfl cl9) (stepR_o rg (Co.mk n p l q ft) true R1 R0 a1 a0 m k (by omega) hn hw1 hw0 _ (H59.takes [8, 9, 10, 11, 12] (by decide))) ?_)
     rintro _ wq64 ⟨R61, R60, rfl, H65⟩
     replace H65 : S wq64 [rgI rg (Co.mk n p l q ft) true R61 R60 (mayO (Co.mk n p l q ft) a1 a0 m) (mayQ (Co.mk n p l q ft) a1 a0 m), alR R61 (mayO (Co.mk n p l q ft) a1 a0 m), rqI R61 (mayO (Co.mk n p l q ft) a1 a0 m), alR R60 (mayQ (Co.mk n p l q ft) a1 a0 m), rqI R60 (mayQ (Co.mk n p l q ft) a1 a0 m), sgI sg (Co.mk n p l q ft) true A57 A56 (mayO (Co.mk n p l q ft) a1 a0 m) (mayQ (Co.mk n p l q ft) a1 a0 m), alI A57 (mayO (Co.mk n p l q ft) a1 a0 m), waI A57 (mayO (Co.mk n p l q ft) a1 a0 m), goI A57 (mayO (Co.mk n p l q ft) a1 a0 m), alI A56 (mayQ (Co.mk n p l q ft) a1 a0 m), waI A56 (mayQ (Co.mk n p l q ft) a1 a0 m), goI A56 (mayQ (Co.mk n p l q ft) a1 a0 m), Ob g45 (.cells #[.bool true, .int .i64 (m.kind), .int .i64 (m.i1), .int .i64 (m.i2), .int .i64 (m.i3), .int .i64 (m.i4), .int .i64 (m.i5), .string (m.root), .string (m.data)] 28 (0, 0)), Ob g1 (.cells #[.int .i64 n, .int .i64 p, .int .i64 l, .int .i64 q, .bool ft] 23 (0, 0)), Old w no] := by have h := H59.absorbI [8, 9, 10, 11, 12] H65; exact h
     refine b_ret rfl rfl ?_
     refine w_e ?_
     refine g_seq ?_
     refine w_s ?_
     refine w_r2 ?_
     refine l_of (s_callK H65 [5, 6, 7, 8, 9, 10, 11, 0, 1, 2, 3, 4] [7, 8, 9, 10, 11, 0, 1, 2, 3, 4, 5, 6, 12, 13, 14] (by decide) rfl (wt0 rfl) (x_call' rfl rfl cl11) (fun _ => same_o sg rg (Co.mk n p l q ft) true A57 A56 R61 R60 (mayO (Co.mk n p l q ft) a1 a0 m) (mayQ (Co.mk n p l q ft) a1 a0 m) (hw63.wok (by omega)) (hw62.wok (by omega)) hw63.ok _ (H65.takes [5, 6, 7, 8, 9, 10, 11, 0, 1, 2, 3, 4] (by decide))) (by decide) rfl rfl ?_)
     intro wq66 H68
     refine w_v (v := .bool false) (x_not (b := true) rfl rfl) ?_
     refine w_m ?_
     refine w_g rfl xm ?_
     refine w_g rfl xm ?_
     refine l_of (s_callK H68 [5, 9, 10, 11, 6, 7, 8, 0, 3, 4, 1, 2] [7, 10, 11, 8, 9, 0, 4, 5, 6, 1, 2, 3, 12, 13, 14] (by decide) rfl (wt1 rfl rfl rfl rfl rfl) (x_call' rfl rfl cl11) (fun _ => same_o sg rg (Co.mk n p l q ft) false A56 A57 R60 R61 (mayQ (Co.mk n p l q ft) a1 a0 m) (mayO (Co.mk n p l q ft) a1 a0 m) (hw62.wok (by omega)) (hw63.wok (by omega)) hw62.ok _ (H68.takes [5, 9, 10, 11, 6, 7, 8, 0, 3, 4, 1, 2] (by decide))) (by decide) rfl rfl ?_)
     intro wq69 H71
     refine w_g (v := .bool false) rfl (x_not (b := true) rfl rfl) ?_
     refine w_v (v := .bool false) (x_pick_f rfl rfl rfl rfl) ?_
     refine w_e ?_
     refine g_weak [(5, .pointer (some ⟨sg, 0, none⟩)), (6, .pointer (some ⟨rg, 0, none⟩)), (10, .pointer (some ⟨g45, 0, none⟩)), (37, .slice pl ls.length cl), (38, .int .i64 ((ls.length : Int))), (39, .int .i64 ((k : Int))), (82, .bool false)] ⟨rfl, rfl, rfl, rfl, rfl, rfl, rfl, trivial⟩ ?_
     refine g_cond_f rfl rfl ?_
     refine g_skip ?_
     refine g_then ?_
     refine w_s ?_
     refine w_r2 ?_
     refine w_1 H71 12 ?_
     refine w_r2 ?_
     refine w_1 H71 12 ?_
     refine l_of (s_callK H71 [5, 6, 7, 8, 9, 10, 11] [7, 8, 9, 10, 11, 0, 1, 2, 3, 4, 5, 6, 12, 13, 14] (by decide) rfl (wt0 rfl) (x_call' rfl rfl cl14) (fun _ => hasS_o sg (Co.mk n p l q ft) true A57 A56 (mayO (Co.mk n p l q ft) a1 a0 m) (mayQ (Co.mk n p l q ft) a1 a0 m) m.i1 hn (hw63.wok (by omega)) (hw62.wok (by omega)) _ (H71.takes [5, 6, 7, 8, 9, 10, 11] (by decide))) (by decide) rfl rfl ?_)
     intro wq72 H74
     refine w_r5 ?_
     refine w_e ?_
     refine w_s ?_
     refine w_r2 ?_
     refine w_1 H74 12 ?_
     refine w_r2 ?_
     refine w_1 H74 12 ?_
     refine l_of (s_callK H74 [0, 1, 2, 3, 4] [0, 1, 2, 3, 4, 5, 6, 7, 8, 9, 10, 11, 12, 13, 14] (by decide) rfl (wt0 rfl) (x_call' rfl rfl cl15) (fun _ => hasR_o rg (Co.mk n p l q ft) true R61 R60 (mayO (Co.mk n p l q ft) a1 a0 m) (mayQ (Co.mk n p l q ft) a1 a0 m) m.i1 ⟨by have := hn.1; omega, hn.2⟩ hw63.V _ (H74.takes [0, 1, 2, 3, 4] (by decide))) (by decide) rfl rfl ?_)
     intro wq75 H77
     refine w_r5 ?_
     refine w_e ?_
     refine g_weak [(5, .pointer (some ⟨sg, 0, none⟩)), (6, .pointer (some ⟨rg, 0, none⟩)), (12, .bool ((hasB (Co.mk n p l q ft).n.toNat (mayO (Co.mk n p l q ft) a1 a0 m).fd m.i1))), (13, .int .i64 ((hasE (Co.mk n p l q ft).n.toNat m.i1))), (14, .bool ((hasB (Co.mk n p l q ft).n.toNat (mayO (Co.mk n p l q ft) a1 a0 m).fd m.i1))), (15, .int .i64 ((hasE (Co.mk n p l q ft).n.toNat m.i1))), (37, .slice pl ls.length cl), (38, .int .i64 ((ls.length : Int))), (39, .int .i64 ((k : Int)))] ⟨rfl, rfl, rfl, rfl, rfl, rfl, rfl, rfl, rfl, trivial⟩ ?_
     refine w_s ?_
     refine w_r2 ?_
     refine w_b (v := .bool (!(((hasB (Co.mk n p l q ft).n.toNat (mayO (Co.mk n p l q ft) a1 a0 m).fd m.i1)) == ((hasB (Co.mk n p l q ft).n.toNat (mayO (Co.mk n p l q ft) a1 a0 m).fd m.i1))))) (hb := (b_neN Tryz.underlying4 rfl)) ?_
     refine w_m ?_
     refine w_g (neg_of (beq_self_eq_true ((hasB (Co.mk n p l q ft).n.toNat (mayO (Co.mk n p l q ft) a1 a0 m).fd m.i1)))) xm ?_
     refine w_g (neg_of (beq_self_eq_true ((hasB (Co.mk n p l q ft).n.toNat (mayO (Co.mk n p l q ft) a1 a0 m).fd m.i1)))) xm ?_
     refine w_g (v := .bool (!decide (((hasE (Co.mk n p l q ft).n.toNat m.i1) : Int) = (hasE (Co.mk n p l q ft).n.toNat m.i1)))) (neg_of (beq_self_eq_true ((hasB (Co.mk n p l q ft).n.toNat (mayO (Co.mk n p l q ft) a1 a0 m).fd m.i1)))) (x_bin rfl rfl rfl b_neq) ?_
     refine w_v (v := .bool (!decide (((hasE (Co.mk n p l q ft).n.toNat m.i1) : Int) = (hasE (Co.mk n p l q ft).n.toNat m.i1)))) (x_pick_f rfl rfl (neg_of (beq_self_eq_true ((hasB (Co.mk n p l q ft).n.toNat (mayO (Co.mk n p l q ft) a1 a0 m).fd m.i1)))) rfl) ?_
     refine w_e ?_
     refine g_cond_f rfl (nf rfl) ?_
     refine g_skip ?_
     refine g_in ?_
     refine g_then ?_
     refine g_weak [(5, .pointer (some ⟨sg, 0, none⟩)), (6, .pointer (some ⟨rg, 0, none⟩)), (37, .slice pl ls.length cl), (38, .int .i64 ((ls.length : Int))), (39, .int .i64 ((k : Int)))] ⟨rfl, rfl, rfl, rfl, rfl, trivial⟩ ?_
     refine g_region ?_
     refine w_b (v := .int .i64 ((k : Int) + 1)) (hb := (b_add (w64 (by omega)))) ?_
     refine w_m ?_
     refine w_e ?_
     refine g_round (i := (k, a0, a1, A0, A1, R0, R1)) ((k + 1), (mayQ (Co.mk n p l q ft) a1 a0 m), (mayO (Co.mk n p l q ft) a1 a0 m), A56, A57, R60, R61) ?_ ?_ ?_
     · exact ⟨rfl, rfl, rfl, rfl, rfl, trivial⟩
     · exact ⟨by omega, hw62, hw63, (H77.takes [5, 6, 7, 8, 9, 10, 11, 0, 1, 2, 3, 4, 13, 14] (by decide))⟩
     · (try dsimp only); omega
   ·
    refine g_cond_f rfl (decide_eq_false hb11) ?_
    refine g_exit ?_
    refine g_then_exit ?_
    refine g_then_exit ?_
    refine g_in_hit ?_
    refine g_then ?_
    refine w_s ?_
    refine l_of (s_call0 H10 (wt0 rfl) (x_call' rfl rfl cl6) (awake_s _) rfl rfl ?_)
    intro wq78 H79
    refine w_a ?_
    refine w_e ?_
    refine g_ret ?_
    refine fin_ret [.tmp 4] [.bool true] rfl ⟨rfl, trivial⟩ ?_
    exact ⟨rfl, H79.mask [false, false, false, false, false, false, false, false, false, false, false, false, false, true]⟩
  ·
   refine l_of (s_call0 H5 (wt0 rfl) (x_call' rfl rfl cl7) (begin_no n p l q ft hg _) rfl rfl ?_)
   intro wq80 H81
   refine w_r9 ?_
   refine w_e ?_
   refine g_weak [(1, .slice pl ls.length cl), (5, .pointer none), (6, .pointer none), (7, .bool true), (8, .bool false)] ⟨rfl, rfl, rfl, rfl, rfl, trivial⟩ ?_
   refine g_seq ?_
   refine w_s ?_
   refine w_m ?_
   refine w_v (v := .bool false) (x_not (b := true) rfl rfl) ?_
   refine w_m ?_
   refine w_g rfl xm ?_
   refine w_g (v := .bool true) rfl (x_not (b := false) rfl rfl) ?_
   refine w_v (v := .bool true) (x_pick_f rfl rfl rfl rfl) ?_
   refine w_e ?_
   refine g_cond_t rfl rfl ?_
   refine w_s ?_
   refine w_r2 ?_
   refine l_of (s_call0 H81 (wt1 rfl rfl rfl rfl rfl) (x_call' rfl rfl cl6) (awake_s _) rfl rfl ?_)
   intro wq82 H83
   refine w_v (v := .bool true) (x_pick_t rfl rfl rfl rfl) ?_
   refine w_a ?_
   refine w_e ?_
   refine g_weak [(4, .bool true)] ⟨rfl, trivial⟩ ?_
   refine g_ret ?_
   refine g_then_ret ?_
   refine fin_ret [.tmp 4] [.bool true] rfl ⟨rfl, trivial⟩ ?_
   exact ⟨rfl, H83.mask [false, true]⟩
 ·
  refine g_cond_t rfl (neg_of hb6) ?_
  refine w_s ?_
  refine l_of (s_call0 H5 (wt0 rfl) (x_call' rfl rfl cl6) (awake_s _) rfl rfl ?_)
  intro wq84 H85
  refine w_a ?_
  refine w_e ?_
  refine g_ret ?_
  refine g_then_ret ?_
  refine fin_ret [.tmp 4] [.bool true] rfl ⟨rfl, trivial⟩ ?_
  exact ⟨rfl, H85.mask [false, true]⟩
set_option maxRecDepth 20000 in
set_option maxHeartbeats 4000000 in
theorem refused_t (n p l q : Int) (ft : Bool) (ls : List Sn) (pl : Option Addr) (cl : Nat) (hm : ls.length ≤ 9223372036854775807) (mz : M) (w : World) (hr : Reads w pl ls.length cl 9 (snV ls)) : Calls Tryz.prog 3 #[.agg #[.int .i64 n, .int .i64 p, .int .i64 l, .int .i64 q, .bool ft], .slice pl ls.length cl, .agg #[.bool true, .int .i64 (mz.kind), .int .i64 (mz.i1), .int .i64 (mz.i2), .int .i64 (mz.i3), .int .i64 (mz.i4), .int .i64 (mz.i5), .string (mz.root), .string (mz.data)]] w fun e w' => e = .returned (.bool true) ∧ S w' [Old w no] := by
 have H0 := S.old w
 refine enter 96 Tryz.func3 rfl rfl rfl ?_
 refine g_weak [(0, .agg #[.int .i64 n, .int .i64 p, .int .i64 l, .int .i64 q, .bool ft]), (1, .slice pl ls.length cl), (2, .agg #[.bool true, .int .i64 (mz.kind), .int .i64 (mz.i1), .int .i64 (mz.i2), .int .i64 (mz.i3), .int .i64 (mz.i4), .int .i64 (mz.i5), .string (mz.root), .string (mz.data)])] ⟨rfl, rfl, rfl, trivial⟩ ?_
 refine w_s ?_
 refine l_of (s_box H0 (wt0 rfl) rfl rfl rfl rfl ?_)
 intro g1 wq2 H3
 refine l_of (s_box H3 (wt0 rfl) rfl rfl rfl rfl ?_)
 intro g4 wq5 H6
 refine w_a ?_
 refine w_e ?_
 refine g_seq ?_
 refine w_s ?_
 refine w_m ?_
 refine l_of (s_call (wt0 rfl) (x_call' rfl rfl cl5) (light_s ls pl cl hm _ (H6.oldReads (k := 2) rfl hr)) ?_)
 rintro _ wq7 ⟨bl, rfl, hbl, H8⟩
 replace H8 : S wq7 [Ob g4 (.cells #[.bool true, .int .i64 (mz.kind), .int .i64 (mz.i1), .int .i64 (mz.i2), .int .i64 (mz.i3), .int .i64 (mz.i4), .int .i64 (mz.i5), .string (mz.root), .string (mz.data)] 28 (0, 0)), Ob g1 (.cells #[.int .i64 n, .int .i64 p, .int .i64 l, .int .i64 q, .bool ft] 23 (0, 0)), Old w no] := H6.absorb (new := []) H8
 refine b_ret rfl rfl ?_
 refine w_v (v := .bool (!bl)) (x_not (b := bl) rfl rfl) ?_
 refine w_m ?_
 rcases Bool.eq_false_or_eq_true (bl) with hb9 | hb9
 ·
  have h60 := hbl hb9
  refine w_g (v := .agg #[.bool true, .int .i64 (mz.kind), .int .i64 (mz.i1), .int .i64 (mz.i2), .int .i64 (mz.i3), .int .i64 (mz.i4), .int .i64 (mz.i5), .string (mz.root), .string (mz.data)]) (neg_of hb9) (x_loadA H8 0 rfl rfl Tryz.underlying28 rfl sz28 rfl rfl rfl) ?_
  refine l_of (s_buildSlice H8 (wt1 rfl rfl rfl rfl (neg_of hb9)) rfl rfl rfl (vs := [.agg #[.bool true, .int .i64 (mz.kind), .int .i64 (mz.i1), .int .i64 (mz.i2), .int .i64 (mz.i3), .int .i64 (mz.i4), .int .i64 (mz.i5), .string (mz.root), .string (mz.data)]]) rfl Tryz.underlying24 sz28 ze28 rfl rfl (cells := #[.bool true, .int .i64 (mz.kind), .int .i64 (mz.i1), .int .i64 (mz.i2), .int .i64 (mz.i3), .int .i64 (mz.i4), .int .i64 (mz.i5), .string (mz.root), .string (mz.data)]) (by kernel_rfl) ?_)
  intro g10 wq11 H12
  refine l_of (s_call (wt1 rfl rfl rfl rfl (neg_of hb9)) (x_call' rfl rfl cl5) (light_s [⟨true, mz⟩] (some ⟨g10, 0, none⟩) 1 (by show 1 ≤ _; omega) _ ((H12.obRw (k := 0) (n := 1) (size := 9) rfl rfl (by decide)).rwReads (k := 0) (by rfl))) ?_)
  rintro _ wq13 ⟨bl2, rfl, hbl2, H14⟩
  replace H14 : S wq13 [Ob g10 (.cells #[.bool true, .int .i64 (mz.kind), .int .i64 (mz.i1), .int .i64 (mz.i2), .int .i64 (mz.i3), .int .i64 (mz.i4), .int .i64 (mz.i5), .string (mz.root), .string (mz.data)] 28 (0, 0)), Ob g4 (.cells #[.bool true, .int .i64 (mz.kind), .int .i64 (mz.i1), .int .i64 (mz.i2), .int .i64 (mz.i3), .int .i64 (mz.i4), .int .i64 (mz.i5), .string (mz.root), .string (mz.data)] 28 (0, 0)), Ob g1 (.cells #[.int .i64 n, .int .i64 p, .int .i64 l, .int .i64 q, .bool ft] 23 (0, 0)), Old w no] := H12.absorb (new := []) H14
  refine b_ret rfl rfl ?_
  refine w_g (v := .bool (!bl2)) (neg_of hb9) (x_not (b := bl2) rfl rfl) ?_
  refine w_v (v := .bool (!bl2)) (x_pick_f rfl rfl (neg_of hb9) rfl) ?_
  refine w_e ?_
  rcases Bool.eq_false_or_eq_true (bl2) with hb15 | hb15
  ·
   refine g_cond_f rfl (neg_of hb15) ?_
   refine g_skip ?_
   refine g_then ?_
   refine g_weak [(1, .slice pl ls.length cl), (3, .pointer (some ⟨g1, 0, none⟩)), (5, .pointer (some ⟨g4, 0, none⟩))] ⟨rfl, rfl, rfl, trivial⟩ ?_
   refine w_s ?_
   refine w_v (v := .agg #[.int .i64 n, .int .i64 p, .int .i64 l, .int .i64 q, .bool ft]) (x_loadA H14 2 rfl rfl Tryz.underlying23 rfl sz23 rfl rfl rfl) ?_
   by_cases hg : goodU n p l q
   ·
    refine l_of (s_call (wt0 rfl) (x_call' rfl rfl cl7) (begin_ok n p l q ft hg _) ?_)
    rintro _ wq16 ⟨sg, B0, B1, rg, C0, C1, rfl, H17⟩
    replace H17 : S wq16 [sgI sg (Co.mk n p l q ft) true B1 B0 (Wy.new n) (Wy.new n), alI B1 (Wy.new n), waI B1 (Wy.new n), goI B1 (Wy.new n), alI B0 (Wy.new n), waI B0 (Wy.new n), goI B0 (Wy.new n), rgI rg (Co.mk n p l q ft) true C1 C0 (Wy.new n) (Wy.new n), alR C1 (Wy.new n), rqI C1 (Wy.new n), alR C0 (Wy.new n), rqI C0 (Wy.new n), Ob g10 (.cells #[.bool true, .int .i64 (mz.kind), .int .i64 (mz.i1), .int .i64 (mz.i2), .int .i64 (mz.i3), .int .i64 (mz.i4), .int .i64 (mz.i5), .string (mz.root), .string (mz.data)] 28 (0, 0)), Ob g4 (.cells #[.bool true, .int .i64 (mz.kind), .int .i64 (mz.i1), .int .i64 (mz.i2), .int .i64 (mz.i3), .int .i64 (mz.i4), .int .i64 (mz.i5), .string (mz.root), .string (mz.data)] 28 (0, 0)), Ob g1 (.cells #[.int .i64 n, .int .i64 p, .int .i64 l, .int .i64 q, .bool ft] 23 (0, 0)), Old w no] := H14.absorb (new := [sgI sg (Co.mk n p l q ft) true B1 B0 (Wy.new n) (Wy.new n), alI B1 (Wy.new n), waI B1 (Wy.new n), goI B1 (Wy.new n), alI B0 (Wy.new n), waI B0 (Wy.new n), goI B0 (Wy.new n), rgI rg (Co.mk n p l q ft) true C1 C0 (Wy.new n) (Wy.new n), alR C1 (Wy.new n), rqI C1 (Wy.new n), alR C0 (Wy.new n), rqI C0 (Wy.new n)]) H17
    have hn : 1 ≤ (Co.mk n p l q ft).n ∧ (Co.mk n p l q ft).n ≤ 4096 := ⟨hg.1, hg.2.1⟩
    have hw00 : WK (Co.mk n p l q ft) 0 (Wy.new n) := WK.new (c := (Co.mk n p l q ft)) (show 0 ≤ n ∧ n ≤ 4096 from ⟨by have := hg.1; omega, hg.2.1⟩)
    refine b_ret rfl rfl ?_
    refine w_r9 ?_
    refine w_e ?_
    refine g_seq ?_
    refine w_s ?_
    refine w_m ?_
    refine w_v (v := .bool false) (x_not (b := true) rfl rfl) ?_
    refine w_m ?_
    refine w_g rfl xm ?_
    refine w_g (v := .bool false) rfl (x_not (b := true) rfl rfl) ?_
    refine w_v (v := .bool false) (x_pick_f rfl rfl rfl rfl) ?_
    refine w_e ?_
    refine g_weak [(1, .slice pl ls.length cl), (5, .pointer (some ⟨g4, 0, none⟩)), (7, .pointer (some ⟨sg, 0, none⟩)), (8, .pointer (some ⟨rg, 0, none⟩)), (9, .bool true), (37, .bool false)] ⟨rfl, rfl, rfl, rfl, rfl, rfl, trivial⟩ ?_
    refine g_cond_f rfl rfl ?_
    refine g_skip ?_
    refine g_then ?_
    refine g_seq ?_
    refine w_s ?_
    refine w_m ?_
    refine w_v (v := .int .i64 ((ls.length : Int))) (x_lenl rfl rfl Tryz.underlying24) ?_
    refine w_m ?_
    refine w_e ?_
    refine g_block ?_
    refine g_loop (ι := Nat × Wy × Wy × Ad × Ad × RAd × RAd) (fun (k, a0, a1, A0, A1, R0, R1) => [(5, .pointer (some ⟨g4, 0, none⟩)), (7, .pointer (some ⟨sg, 0, none⟩)), (8, .pointer (some ⟨rg, 0, none⟩)), (42, .slice pl ls.length cl), (43, .int .i64 ((ls.length : Int))), (44, .int .i64 ((k : Int)))]) (fun (k, a0, a1, A0, A1, R0, R1) wx => (k ≤ ls.length) ∧ (WK (Co.mk n p l q ft) k a0) ∧ (WK (Co.mk n p l q ft) k a1) ∧ S wx [sgI sg (Co.mk n p l q ft) true A1 A0 a1 a0, alI A1 a1, waI A1 a1, goI A1 a1, alI A0 a0, waI A0 a0, goI A0 a0, rgI rg (Co.mk n p l q ft) true R1 R0 a1 a0, alR R1 a1, rqI R1 a1, alR R0 a0, rqI R0 a0, Ob g10 (.cells #[.bool true, .int .i64 (mz.kind), .int .i64 (mz.i1), .int .i64 (mz.i2), .int .i64 (mz.i3), .int .i64 (mz.i4), .int .i64 (mz.i5), .string (mz.root), .string (mz.data)] 28 (0, 0)), Ob g4 (.cells #[.bool true, .int .i64 (mz.kind), .int .i64 (mz.i1), .int .i64 (mz.i2), .int .i64 (mz.i3), .int .i64 (mz.i4), .int .i64 (mz.i5), .string (mz.root), .string (mz.data)] 28 (0, 0)), Ob g1 (.cells #[.int .i64 n, .int .i64 p, .int .i64 l, .int .i64 q, .bool ft] 23 (0, 0)), Old w no]) (fun (k, a0, a1, A0, A1, R0, R1) => ls.length - k) (0, (Wy.new n), (Wy.new n), B0, B1, C0, C1) ⟨rfl, rfl, rfl, rfl, rfl, rfl, trivial⟩ ⟨Nat.zero_le _, hw00, hw00, (H17.takes [0, 1, 2, 3, 4, 5, 6, 7, 8, 9, 10, 11, 12, 13, 14, 15] (by decide))⟩ ?_
    rintro ⟨k, a0, a1, A0, A1, R0, R1⟩ wq18 ⟨hk, hw0, hw1, H19⟩
    refine g_weak [(5, .pointer (some ⟨g4, 0, none⟩)), (7, .pointer (some ⟨sg, 0, none⟩)), (8, .pointer (some ⟨rg, 0, none⟩)), (42, .slice pl ls.length cl), (43, .int .i64 ((ls.length : Int))), (44, .int .i64 ((k : Int)))] ⟨rfl, rfl, rfl, rfl, rfl, rfl, trivial⟩ ?_
    refine w_s ?_
    refine w_b ?_
    refine w_e ?_
    refine g_seq ?_
    by_cases hb20 : ((k : Int) : Int) < (ls.length : Int)
    ·
     refine g_cond_t rfl (decide_eq_true hb20) ?_
     refine g_skip ?_
     refine g_then ?_
     refine g_seq ?_
     refine g_block ?_
     refine w_s ?_
     refine w_v (v := .pointer ((pl).map fun q => q.add (k * 9))) (x_idxR k (H19.oldReads (k := 15) rfl hr) rfl rfl rfl Tryz.underlying24 sz28 (by omega)) ?_
     rcases hsn : ls.getD k S0 with ⟨o, m⟩
     cases o
     ·
      refine w_v (v := .agg #[.bool false, .int .i64 (m.kind), .int .i64 (m.i1), .int .i64 (m.i2), .int .i64 (m.i3), .int .i64 (m.i4), .int .i64 (m.i5), .string (m.root), .string (m.data)]) (x_loadRA (vs := snL ⟨false, m⟩) k (H19.oldReads (k := 15) rfl hr) (by omega) rfl rfl Tryz.underlying28 rfl sz28 (by rfl) (by rw [← hsn]; exact snV_at (by omega))) ?_
      refine l_of (s_alloc H19 (wt0 rfl) rfl rfl rfl ze28 ?_)
      intro g21 wq22 H23
      refine l_of (w_st #[.bool false, .int .i64 (m.kind), .int .i64 (m.i1), .int .i64 (m.i2), .int .i64 (m.i3), .int .i64 (m.i4), .int .i64 (m.i5), .string (m.root), .string (m.data)] H23 0 ?_)
      intro wq24 H25
      refine w_e ?_
      refine w_s ?_
      refine w_r2 ?_
      refine w_1 H25 0 ?_
      refine w_f 1 ?_
      refine w_v (v := .agg m.cells) (x_loadA H25 0 rfl rfl Tryz.underlying26 rfl sz26 rfl rfl rfl) ?_
      refine l_of (s_call (wt0 rfl) (x_call' rfl rfl cl8) (stepF_o sg (Co.mk n p l q ft) false A0 A1 a0 a1 m hn (hw0.wok (by omega)) (hw1.wok (by omega)) _ (H25.takes [1, 5, 6, 7, 2, 3, 4] (by decide))) ?_)
      rintro _ wq28 ⟨A26, A27, rfl, H29⟩
      replace H29 : S wq28 [sgI sg (Co.mk n p l q ft) true A27 A26 (mayQ (Co.mk n p l q ft) a0 a1 m) (mayO (Co.mk n p l q ft) a0 a1 m), alI A26 (mayO (Co.mk n p l q ft) a0 a1 m), waI A26 (mayO (Co.mk n p l q ft) a0 a1 m), goI A26 (mayO (Co.mk n p l q ft) a0 a1 m), alI A27 (mayQ (Co.mk n p l q ft) a0 a1 m), waI A27 (mayQ (Co.mk n p l q ft) a0 a1 m), goI A27 (mayQ (Co.mk n p l q ft) a0 a1 m), Ob g21 (.cells #[.bool false, .int .i64 (m.kind), .int .i64 (m.i1), .int .i64 (m.i2), .int .i64 (m.i3), .int .i64 (m.i4), .int .i64 (m.i5), .string (m.root), .string (m.data)] 28 (0, 0)), rgI rg (Co.mk n p l q ft) true R1 R0 a1 a0, alR R1 a1, rqI R1 a1, alR R0 a0, rqI R0 a0, Ob g10 (.cells #[.bool true, .int .i64 (mz.kind), .int .i64 (mz.i1), .int .i64 (mz.i2), .int .i64 (mz.i3), .int .i64 (mz.i4), .int .i64 (mz.i5), .string (mz.root), .string (mz.data)] 28 (0, 0)), Ob g4 (.cells #[.bool true, .int .i64 (mz.kind), .int .i64 (mz.i1), .int .i64 (mz.i2), .int .i64 (mz.i3), .int .i64 (mz.i4), .int .i64 (mz.i5), .string (mz.root), .string (mz.data)] 28 (0, 0)), Ob g1 (.cells #[.int .i64 n, .int .i64 p, .int .i64 l, .int .i64 q, .bool ft] 23 (0, 0)), Old w no] := by have h := H25.absorbI [1, 5, 6, 7, 2, 3, 4] H29; exact h
      refine b_ret rfl rfl ?_
      refine w_e ?_
      refine g_region ?_
      refine w_r2 ?_
      refine w_1 H29 7 ?_
      refine w_f 1 ?_
      refine w_v (v := .agg m.cells) (x_loadA H29 7 rfl rfl Tryz.underlying26 rfl sz26 rfl rfl rfl) ?_
      have hw32 := hw0.mayO (a := a0) (b := a1) (m := m) hn
      have hw33 := hw1.mayQ (a := a0) (b := a1) (m := m) hn
      refine l_of (s_call (wt0 rfl) (x_call' rfl rfl cl9) (stepR_o rg (Co.mk n p l q ft) false R0 R1 a0 a1 m k (by omega) hn hw0 hw1 _ (H29.takes [8, 11, 12, 9, 10] (by decide))) ?_)
      rintro _ wq34 ⟨R30, R31, rfl, H35⟩
      replace H35 : S wq34 [rgI rg (Co.mk n p l q ft) true R31 R30 (mayQ (Co.mk n p l q ft) a0 a1 m) (mayO (Co.mk n p l q ft) a0 a1 m), alR R30 (mayO (Co.mk n p l q ft) a0 a1 m), rqI R30 (mayO (Co.mk n p l q ft) a0 a1 m), alR R31 (mayQ (Co.mk n p l q ft) a0 a1 m), rqI R31 (mayQ (Co.mk n p l q ft) a0 a1 m), sgI sg (Co.mk n p l q ft) true A27 A26 (mayQ (Co.mk n p l q ft) a0 a1 m) (mayO (Co.mk n p l q ft) a0 a1 m), alI A26 (mayO (Co.mk n p l q ft) a0 a1 m), waI A26 (mayO (Co.mk n p l q ft) a0 a1 m), goI A26 (mayO (Co.mk n p l q ft) a0 a1 m), alI A27 (mayQ (Co.mk n p l q ft) a0 a1 m), waI A27 (mayQ (Co.mk n p l q ft) a0 a1 m), goI A27 (mayQ (Co.mk n p l q ft) a0 a1 m), Ob g21 (.cells #[.bool false, .int .i64 (m.kind), .int .i64 (m.i1), .int .i64 (m.i2), .int .i64 (m.i3), .int .i64 (m.i4), .int .i64 (m.i5), .string (m.root), .string (m.data)] 28 (0, 0)), Ob g10 (.cells #[.bool true, .int .i64 (mz.kind), .int .i64 (mz.i1), .int .i64 (mz.i2), .int .i64 (mz.i3), .int .i64 (mz.i4), .int .i64 (mz.i5), .string (mz.root), .string (mz.data)] 28 (0, 0)), Ob g4 (.cells #[.bool true, .int .i64 (mz.kind), .int .i64 (mz.i1), .int .i64 (mz.i2), .int .i64 (mz.i3), .int .i64 (mz.i4), .int .i64 (mz.i5), .string (mz.root), .string (mz.data)] 28 (0, 0)), Ob g1 (.cells #[.int .i64 n, .int .i64 p, .int .i64 l, .int .i64 q, .bool ft] 23 (0, 0)), Old w no] := by have h := H29.absorbI [8, 11, 12, 9, 10] H35; exact h
      refine b_ret rfl rfl ?_
      refine g_nil ?_
      refine g_in ?_
      refine g_then ?_
      refine g_weak [(5, .pointer (some ⟨g4, 0, none⟩)), (7, .pointer (some ⟨sg, 0, none⟩)), (8, .pointer (some ⟨rg, 0, none⟩)), (42, .slice pl ls.length cl), (43, .int .i64 ((ls.length : Int))), (44, .int .i64 ((k : Int)))] ⟨rfl, rfl, rfl, rfl, rfl, rfl, trivial⟩ ?_
      refine g_region ?_
      refine w_b (v := .int .i64 ((k : Int) + 1)) (hb := (b_add (w64 (by omega)))) ?_
      refine w_m ?_
      refine w_e ?_
      refine g_round (i := (k, a0, a1, A0, A1, R0, R1)) ((k + 1), (mayO (Co.mk n p l q ft) a0 a1 m), (mayQ (Co.mk n p l q ft) a0 a1 m), A26, A27, R30, R31) ?_ ?_ ?_
      · exact ⟨rfl, rfl, rfl, rfl, rfl, rfl, trivial⟩
      · exact ⟨by omega, hw32, hw33, (H35.takes [5, 9, 10, 11, 6, 7, 8, 0, 3, 4, 1, 2, 13, 14, 15, 16] (by decide))⟩
      · (try dsimp only); omega
     ·
      refine w_v (v := .agg #[.bool true, .int .i64 (m.kind), .int .i64 (m.i1), .int .i64 (m.i2), .int .i64 (m.i3), .int .i64 (m.i4), .int .i64 (m.i5), .string (m.root), .string (m.data)]) (x_loadRA (vs := snL ⟨true, m⟩) k (H19.oldReads (k := 15) rfl hr) (by omega) rfl rfl Tryz.underlying28 rfl sz28 (by rfl) (by rw [← hsn]; exact snV_at (by omega))) ?_
      refine l_of (s_alloc H19 (wt0 rfl) rfl rfl rfl ze28 ?_)
      intro g36 wq37 H38
      refine l_of (w_st #[.bool true, .int .i64 (m.kind), .int .i64 (m.i1), .int .i64 (m.i2), .int .i64 (m.i3), .int .i64 (m.i4), .int .i64 (m.i5), .string (m.root), .string (m.data)] H38 0 ?_)
      intro wq39 H40
      refine w_e ?_
      refine w_s ?_
      refine w_r2 ?_
      refine w_1 H40 0 ?_
      refine w_f 1 ?_
      refine w_v (v := .agg m.cells) (x_loadA H40 0 rfl rfl Tryz.underlying26 rfl sz26 rfl rfl rfl) ?_
      refine l_of (s_call (wt0 rfl) (x_call' rfl rfl cl8) (stepF_o sg (Co.mk n p l q ft) true A1 A0 a1 a0 m hn (hw1.wok (by omega)) (hw0.wok (by omega)) _ (H40.takes [1, 2, 3, 4, 5, 6, 7] (by decide))) ?_)
      rintro _ wq43 ⟨A42, A41, rfl, H44⟩
      replace H44 : S wq43 [sgI sg (Co.mk n p l q ft) true A42 A41 (mayO (Co.mk n p l q ft) a1 a0 m) (mayQ (Co.mk n p l q ft) a1 a0 m), alI A42 (mayO (Co.mk n p l q ft) a1 a0 m), waI A42 (mayO (Co.mk n p l q ft) a1 a0 m), goI A42 (mayO (Co.mk n p l q ft) a1 a0 m), alI A41 (mayQ (Co.mk n p l q ft) a1 a0 m), waI A41 (mayQ (Co.mk n p l q ft) a1 a0 m), goI A41 (mayQ (Co.mk n p l q ft) a1 a0 m), Ob g36 (.cells #[.bool true, .int .i64 (m.kind), .int .i64 (m.i1), .int .i64 (m.i2), .int .i64 (m.i3), .int .i64 (m.i4), .int .i64 (m.i5), .string (m.root), .string (m.data)] 28 (0, 0)), rgI rg (Co.mk n p l q ft) true R1 R0 a1 a0, alR R1 a1, rqI R1 a1, alR R0 a0, rqI R0 a0, Ob g10 (.cells #[.bool true, .int .i64 (mz.kind), .int .i64 (mz.i1), .int .i64 (mz.i2), .int .i64 (mz.i3), .int .i64 (mz.i4), .int .i64 (mz.i5), .string (mz.root), .string (mz.data)] 28 (0, 0)), Ob g4 (.cells #[.bool true, .int .i64 (mz.kind), .int .i64 (mz.i1), .int .i64 (mz.i2), .int .i64 (mz.i3), .int .i64 (mz.i4), .int .i64 (mz.i5), .string (mz.root), .string (mz.data)] 28 (0, 0)), Ob g1 (.cells #[.int .i64 n, .int .i64 p, .int .i64 l, .int .i64 q, .bool ft] 23 (0, 0)), Old w no] := by have h := H40.absorbI [1, 2, 3, 4, 5, 6, 7] H44; exact h
      refine b_ret rfl rfl ?_
      refine w_e ?_
      refine g_region ?_
      refine w_r2 ?_
      refine w_1 H44 7 ?_
      refine w_f 1 ?_
      refine w_v (v := .agg m.cells) (x_loadA H44 7 rfl rfl Tryz.underlying26 rfl sz26 rfl rfl rfl) ?_
      have hw48 := hw1.mayO (a := a1) (b := a0) (m := m) hn
      have hw47 := hw0.mayQ (a := a1) (b := a0) (m := m) hn
      refine l_of (s_call (wt0 rfl) (x_call' rfl rfl cl9) (stepR_o rg (Co.mk n p l q ft) true R1 R0 a1 a0 m k (by omega) hn hw1 hw0 _ (H44.takes [8, 9, 10, 11, 12] (by decide))) ?_)
      rintro _ wq49 ⟨R46, R45, rfl, H50⟩
      replace H50 : S wq49 [rgI rg (Co.mk n p l q ft) true R46 R45 (mayO (Co.mk n p l q ft) a1 a0 m) (mayQ (Co.mk n p l q ft) a1 a0 m), alR R46 (mayO (Co.mk n p l q ft) a1 a0 m), rqI R46 (mayO (Co.mk n p l q ft) a1 a0 m), alR R45 (mayQ (Co.mk n p l q ft) a1 a0 m), rqI R45 (mayQ (Co.mk n p l q ft) a1 a0 m), sgI sg (Co.mk n p l q ft) true A42 A41 (mayO (Co.mk n p l q ft) a1 a0 m) (mayQ (Co.mk n p l q ft) a1 a0 m), alI A42 (mayO (Co.mk n p l q ft) a1 a0 m), waI A42 (mayO (Co.mk n p l q ft) a1 a0 m), goI A42 (mayO (Co.mk n p l q ft) a1 a0 m), alI A41 (mayQ (Co.mk n p l q ft) a1 a0 m), waI A41 (mayQ (Co.mk n p l q ft) a1 a0 m), goI A41 (mayQ (Co.mk n p l q ft) a1 a0 m), Ob g36 (.cells #[.bool true, .int .i64 (m.kind), .int .i64 (m.i1), .int .i64 (m.i2), .int .i64 (m.i3), .int .i64 (m.i4), .int .i64 (m.i5), .string (m.root), .string (m.data)] 28 (0, 0)), Ob g10 (.cells #[.bool true, .int .i64 (mz.kind), .int .i64 (mz.i1), .int .i64 (mz.i2), .int .i64 (mz.i3), .int .i64 (mz.i4), .int .i64 (mz.i5), .string (mz.root), .string (mz.data)] 28 (0, 0)), Ob g4 (.cells #[.bool true, .int .i64 (mz.kind), .int .i64 (mz.i1), .int .i64 (mz.i2), .int .i64 (mz.i3), .int .i64 (mz.i4), .int .i64 (mz.i5), .string (mz.root), .string (mz.data)] 28 (0, 0)), Ob g1 (.cells #[.int .i64 n, .int .i64 p, .int .i64 l, .int .i64 q, .bool ft] 23 (0, 0)), Old w no] := by have h := H44.absorbI [8, 9, 10, 11, 12] H50; exact h
      refine b_ret rfl rfl ?_
      refine g_nil ?_
      refine g_in ?_
      refine g_then ?_
      refine g_weak [(5, .pointer (some ⟨g4, 0, none⟩)), (7, .pointer (some ⟨sg, 0, none⟩)), (8, .pointer (some ⟨rg, 0, none⟩)), (42, .slice pl ls.length cl), (43, .int .i64 ((ls.length : Int))), (44, .int .i64 ((k : Int)))] ⟨rfl, rfl, rfl, rfl, rfl, rfl, trivial⟩ ?_
      refine g_region ?_
      refine w_b (v := .int .i64 ((k : Int) + 1)) (hb := (b_add (w64 (by omega)))) ?_
      refine w_m ?_
      refine w_e ?_
      refine g_round (i := (k, a0, a1, A0, A1, R0, R1)) ((k + 1), (mayQ (Co.mk n p l q ft) a1 a0 m), (mayO (Co.mk n p l q ft) a1 a0 m), A41, A42, R45, R46) ?_ ?_ ?_
      · exact ⟨rfl, rfl, rfl, rfl, rfl, rfl, trivial⟩
      · exact ⟨by omega, hw47, hw48, (H50.takes [5, 6, 7, 8, 9, 10, 11, 0, 1, 2, 3, 4, 13, 14, 15, 16] (by decide))⟩
      · (try dsimp only); omega
    ·
     refine g_cond_f rfl (decide_eq_false hb20) ?_
     refine g_exit ?_
     refine g_then_exit ?_
     refine g_then_exit ?_
     refine g_in_hit ?_
     refine g_then ?_
     refine w_s ?_
     refine w_m ?_
     refine l_of (s_call (wt0 rfl) (x_call' rfl rfl cl10) (copy_o sg (Co.mk n p l q ft) true A1 A0 a1 a0 (hw1.wok (by omega)).g (hw0.wok (by omega)).g (hw1.wok (by omega)).al (hw1.wok (by omega)).wa (hw0.wok (by omega)).al (hw0.wok (by omega)).wa _ (H19.takes [0, 1, 2, 3, 4, 5, 6] (by decide))) ?_)
     rintro _ wq54 ⟨gq51, B53, B52, rfl, H55⟩
     replace H55 : S wq54 [sgI gq51 (Co.mk n p l q ft) true B53 B52 a1 a0, alI B53 a1, waI B53 a1, goI B53 a1, alI B52 a0, waI B52 a0, goI B52 a0, sgI sg (Co.mk n p l q ft) true A1 A0 a1 a0, alI A1 a1, waI A1 a1, goI A1 a1, alI A0 a0, waI A0 a0, goI A0 a0, rgI rg (Co.mk n p l q ft) true R1 R0 a1 a0, alR R1 a1, rqI R1 a1, alR R0 a0, rqI R0 a0, Ob g10 (.cells #[.bool true, .int .i64 (mz.kind), .int .i64 (mz.i1), .int .i64 (mz.i2), .int .i64 (mz.i3), .int .i64 (mz.i4), .int .i64 (mz.i5), .string (mz.root), .string (mz.data)] 28 (0, 0)), Ob g4 (.cells #[.bool true, .int .i64 (mz.kind), .int .i64 (mz.i1), .int .i64 (mz.i2), .int .i64 (mz.i3), .int .i64 (mz.i4), .int .i64 (mz.i5), .string (mz.root), .string (mz.data)] 28 (0, 0)), Ob g1 (.cells #[.int .i64 n, .int .i64 p, .int .i64 l, .int .i64 q, .bool ft] 23 (0, 0)), Old w no] := by have h := H19.absorbI [0, 1, 2, 3, 4, 5, 6] H55; exact h
     refine b_ret rfl rfl ?_
     refine w_a ?_
     refine w_e ?_
     refine g_seq ?_
     refine w_s ?_
     refine w_m ?_
     refine w_b (v := .bool false) (hb := (b_eqN (r := false) Tryz.underlying31 rfl)) ?_
     refine w_e ?_
     refine g_cond_f rfl rfl ?_
     refine g_skip ?_
     refine g_then ?_
     refine w_s ?_
     refine w_r2 ?_
     refine w_1 H55 20 ?_
     refine w_f 1 ?_
     refine w_v (v := .agg mz.cells) (x_loadA H55 20 rfl rfl Tryz.underlying26 rfl sz26 rfl rfl rfl) ?_
     refine l_of (s_call (wt0 rfl) (x_call' rfl rfl cl8) (stepF_o gq51 (Co.mk n p l q ft) true B53 B52 a1 a0 mz hn (hw1.wok (by omega)) (hw0.wok (by omega)) _ (H55.takes [0, 1, 2, 3, 4, 5, 6] (by decide))) ?_)
     rintro _ wq58 ⟨A57, A56, rfl, H59⟩
     replace H59 : S wq58 [sgI gq51 (Co.mk n p l q ft) true A57 A56 (mayO (Co.mk n p l q ft) a1 a0 mz) (mayQ (Co.mk n p l q ft) a1 a0 mz), alI A57 (mayO (Co.mk n p l q ft) a1 a0 mz), waI A57 (mayO (Co.mk n p l q ft) a1 a0 mz), goI A57 (mayO (Co.mk n p l q ft) a1 a0 mz), alI A56 (mayQ (Co.mk n p l q ft) a1 a0 mz), waI A56 (mayQ (Co.mk n p l q ft) a1 a0 mz), goI A56 (mayQ (Co.mk n p l q ft) a1 a0 mz), sgI sg (Co.mk n p l q ft) true A1 A0 a1 a0, alI A1 a1, waI A1 a1, goI A1 a1, alI A0 a0, waI A0 a0, goI A0 a0, rgI rg (Co.mk n p l q ft) true R1 R0 a1 a0, alR R1 a1, rqI R1 a1, alR R0 a0, rqI R0 a0, Ob g10 (.cells #[.bool true, .int .i64 (mz.kind), .int .i64 (mz.i1), .int .i64 (mz.i2), .int .i64 (mz.i3), .int .i64 (mz.i4), .int .i64 (mz.i5), .string (mz.root), .string (mz.data)] 28 (0, 0)), Ob g4 (.cells #[.bool true, .int .i64 (mz.kind), .int .i64 (mz.i1), .int .i64 (mz.i2), .int .i64 (mz.i3), .int .i64 (mz.i4), .int .i64 (mz.i5), .string (mz.root), .string (mz.data)] 28 (0, 0)), Ob g1 (.cells #[.int .i64 n, .int .i64 p, .int .i64 l, .int .i64 q, .bool ft] 23 (0, 0)), Old w no] := by have h := H55.absorbI [0, 1, 2, 3, 4, 5, 6] H59; exact h
     refine b_ret rfl rfl ?_
     refine w_a ?_
     refine w_e ?_
     refine g_weak [(7, .pointer (some ⟨sg, 0, none⟩)), (8, .pointer (some ⟨rg, 0, none⟩)), (13, .pointer (some ⟨gq51, 0, none⟩)), (14, .int .i64 ((mayE (Co.mk n p l q ft) a1 a0 mz)))] ⟨rfl, rfl, rfl, rfl, trivial⟩ ?_
     refine g_seq ?_
     refine w_s ?_
     refine w_r2 ?_
     refine l_of (s_callK H59 [7, 8, 9, 10, 11, 12, 13, 14, 15, 16, 17, 18] [12, 13, 14, 15, 16, 17, 18, 0, 1, 2, 3, 4, 5, 6, 7, 8, 9, 10, 11, 19, 20, 21, 22] (by decide) rfl (wt0 rfl) (x_call' rfl rfl cl11) (fun _ => same_o sg rg (Co.mk n p l q ft) true A1 A0 R1 R0 a1 a0 (hw1.wok (by omega)) (hw0.wok (by omega)) hw1.ok _ (H59.takes [7, 8, 9, 10, 11, 12, 13, 14, 15, 16, 17, 18] (by decide))) (by decide) rfl rfl ?_)
     intro wq60 H62
     refine w_v (v := .bool false) (x_not (b := true) rfl rfl) ?_
     refine w_m ?_
     refine w_g rfl xm ?_
     refine w_g rfl xm ?_
     refine l_of (s_callK H62 [7, 11, 12, 13, 8, 9, 10, 14, 17, 18, 15, 16] [12, 13, 14, 15, 16, 17, 18, 0, 4, 5, 6, 1, 2, 3, 7, 10, 11, 8, 9, 19, 20, 21, 22] (by decide) rfl (wt1 rfl rfl rfl rfl rfl) (x_call' rfl rfl cl11) (fun _ => same_o sg rg (Co.mk n p l q ft) false A0 A1 R0 R1 a0 a1 (hw0.wok (by omega)) (hw1.wok (by omega)) hw0.ok _ (H62.takes [7, 11, 12, 13, 8, 9, 10, 14, 17, 18, 15, 16] (by decide))) (by decide) rfl rfl ?_)
     intro wq63 H65
     refine w_g (v := .bool false) rfl (x_not (b := true) rfl rfl) ?_
     refine w_v (v := .bool false) (x_pick_f rfl rfl rfl rfl) ?_
     refine w_e ?_
     refine g_cond_f rfl rfl ?_
     refine g_skip ?_
     refine g_then ?_
     refine g_seq ?_
     refine w_s ?_
     refine w_m ?_
     refine w_b (v := .bool (!decide (((mayE (Co.mk n p l q ft) a1 a0 mz) : Int) = 0))) (hb := b_neq) ?_
     refine w_m ?_
     by_cases hb66 : ((mayE (Co.mk n p l q ft) a1 a0 mz) : Int) = 0
     ·
      refine w_n (nf hb66) ?_
      refine w_n (nf hb66) ?_
      refine w_n (nf hb66) ?_
      refine w_n (nf hb66) ?_
      refine w_n (nf hb66) ?_
      refine l_of (s_not (wn2 rfl rfl rfl rfl) rfl rfl ?_)
      refine l_of (s_not (wn2 rfl rfl rfl rfl) rfl rfl ?_)
      refine l_of (s_not (wn2 rfl rfl rfl rfl) rfl rfl ?_)
      refine l_of (s_not (wn2 rfl rfl rfl rfl) rfl rfl ?_)
      refine w_n (nf hb66) ?_
      refine w_v (v := .bool false) (x_pick_f rfl rfl (nf hb66) rfl) ?_
      refine w_e ?_
      refine g_weak [(94, .bool false)] ⟨rfl, trivial⟩ ?_
      refine g_cond_f rfl rfl ?_
      refine g_skip ?_
      refine g_then ?_
      refine w_s ?_
      refine l_of (s_call0 H65 (wt0 rfl) (x_call' rfl rfl cl6) (awake_s _) rfl rfl ?_)
      intro wq67 H68
      refine w_a ?_
      refine w_e ?_
      refine g_ret ?_
      refine fin_ret [.tmp 6] [.bool true] rfl ⟨rfl, trivial⟩ ?_
      exact ⟨rfl, H68.mask [false, false, false, false, false, false, false, false, false, false, false, false, false, false, false, false, false, false, false, false, false, false, true]⟩
     ·
      refine w_g (nt hb66) xm ?_
      refine w_g (nt hb66) xm ?_
      obtain ⟨q70, q71⟩ := may_refused (hb66)
      have H69 : S wq63 [sgI gq51 (Co.mk n p l q ft) true A57 A56 a1 a0, alI A57 a1, waI A57 a1, goI A57 a1, alI A56 a0, waI A56 a0, goI A56 a0, sgI sg (Co.mk n p l q ft) true A1 A0 a1 a0, alI A1 a1, waI A1 a1, goI A1 a1, alI A0 a0, waI A0 a0, goI A0 a0, rgI rg (Co.mk n p l q ft) true R1 R0 a1 a0, alR R1 a1, rqI R1 a1, alR R0 a0, rqI R0 a0, Ob g10 (.cells #[.bool true, .int .i64 (mz.kind), .int .i64 (mz.i1), .int .i64 (mz.i2), .int .i64 (mz.i3), .int .i64 (mz.i4), .int .i64 (mz.i5), .string (mz.root), .string (mz.data)] 28 (0, 0)), Ob g4 (.cells #[.bool true, .int .i64 (mz.kind), .int .i64 (mz.i1), .int .i64 (mz.i2), .int .i64 (mz.i3), .int .i64 (mz.i4), .int .i64 (mz.i5), .string (mz.root), .string (mz.data)] 28 (0, 0)), Ob g1 (.cells #[.int .i64 n, .int .i64 p, .int .i64 l, .int .i64 q, .bool ft] 23 (0, 0)), Old w no] := by rw [q70, q71] at H65; exact H65
      refine l_of (s_callK H69 [0, 1, 2, 3, 4, 5, 6, 14, 15, 16, 17, 18] [0, 1, 2, 3, 4, 5, 6, 12, 13, 14, 15, 16, 17, 18, 7, 8, 9, 10, 11, 19, 20, 21, 22] (by decide) rfl (wt1 rfl rfl rfl rfl (nt hb66)) (x_call' rfl rfl cl11) (fun _ => same_o gq51 rg (Co.mk n p l q ft) true A57 A56 R1 R0 a1 a0 (hw1.wok (by omega)) (hw0.wok (by omega)) hw1.ok _ (H69.takes [0, 1, 2, 3, 4, 5, 6, 14, 15, 16, 17, 18] (by decide))) (by decide) rfl rfl ?_)
      intro wq72 H74
      refine w_g (v := .bool false) (nt hb66) (x_not (b := true) rfl rfl) ?_
      refine w_g (nt hb66) xm ?_
      refine w_g rfl xm ?_
      refine w_g rfl xm ?_
      refine l_of (s_callK H74 [0, 4, 5, 6, 1, 2, 3, 14, 17, 18, 15, 16] [0, 4, 5, 6, 1, 2, 3, 12, 13, 14, 15, 16, 17, 18, 7, 10, 11, 8, 9, 19, 20, 21, 22] (by decide) rfl (wt1 rfl rfl rfl rfl rfl) (x_call' rfl rfl cl11) (fun _ => same_o gq51 rg (Co.mk n p l q ft) false A56 A57 R0 R1 a0 a1 (hw0.wok (by omega)) (hw1.wok (by omega)) hw0.ok _ (H74.takes [0, 4, 5, 6, 1, 2, 3, 14, 17, 18, 15, 16] (by decide))) (by decide) rfl rfl ?_)
      intro wq78 H80
      refine w_g (v := .bool false) rfl (x_not (b := true) rfl rfl) ?_
      refine w_g (v := .bool false) (nt hb66) (x_pick_f rfl rfl rfl rfl) ?_
      refine w_v (v := .bool false) (x_pick_t rfl rfl (nt hb66) rfl) ?_
      refine w_e ?_
      refine g_weak [(94, .bool false)] ⟨rfl, trivial⟩ ?_
      refine g_cond_f rfl rfl ?_
      refine g_skip ?_
      refine g_then ?_
      refine w_s ?_
      refine l_of (s_call0 H80 (wt0 rfl) (x_call' rfl rfl cl6) (awake_s _) rfl rfl ?_)
      intro wq81 H82
      refine w_a ?_
      refine w_e ?_
      refine g_ret ?_
      refine fin_ret [.tmp 6] [.bool true] rfl ⟨rfl, trivial⟩ ?_
      exact ⟨rfl, H82.mask [false, false, false, false, false, false, false, false, false, false, false, false, false, false, false, false, false, false, false, false, false, false, true]⟩
   ·
    refine l_of (s_call0 H14 (wt0 rfl) (x_call' rfl rfl cl7) (begin_no n p l q ft hg _) rfl rfl ?_)
    intro wq83 H84
    refine w_r9 ?_
    refine w_e ?_
    refine g_seq ?_
    refine w_s ?_
    refine w_m ?_
    refine w_v (v := .bool false) (x_not (b := true) rfl rfl) ?_
    refine w_m ?_
    refine w_g rfl xm ?_
    refine w_g (v := .bool true) rfl (x_not (b := false) rfl rfl) ?_
    refine w_v (v := .bool true) (x_pick_f rfl rfl rfl rfl) ?_
    refine w_e ?_
    refine g_weak [(1, .slice pl ls.length cl), (5, .pointer (some ⟨g4, 0, none⟩)), (7, .pointer none), (8, .pointer none), (9, .bool true), (37, .bool true)] ⟨rfl, rfl, rfl, rfl, rfl, rfl, trivial⟩ ?_
    refine g_cond_t rfl rfl ?_
    refine w_s ?_
    refine w_r2 ?_
    refine l_of (s_call0 H84 (wt1 rfl rfl rfl rfl rfl) (x_call' rfl rfl cl6) (awake_s _) rfl rfl ?_)
    intro wq85 H86
    refine w_v (v := .bool true) (x_pick_t rfl rfl rfl rfl) ?_
    refine w_a ?_
    refine w_e ?_
    refine g_ret ?_
    refine g_then_ret ?_
    refine fin_ret [.tmp 6] [.bool true] rfl ⟨rfl, trivial⟩ ?_
    exact ⟨rfl, H86.mask [false, false, false, true]⟩
  ·
   refine g_cond_t rfl (neg_of hb15) ?_
   refine w_s ?_
   refine l_of (s_call0 H14 (wt0 rfl) (x_call' rfl rfl cl6) (awake_s _) rfl rfl ?_)
   intro wq87 H88
   refine w_a ?_
   refine w_e ?_
   refine g_weak [(6, .bool true)] ⟨rfl, trivial⟩ ?_
   refine g_ret ?_
   refine g_then_ret ?_
   refine fin_ret [.tmp 6] [.bool true] rfl ⟨rfl, trivial⟩ ?_
   exact ⟨rfl, H88.mask [false, false, false, true]⟩
 ·
  refine w_n (neg_of hb9) ?_
  refine w_n (neg_of hb9) ?_
  refine w_n (neg_of hb9) ?_
  refine w_n (neg_of hb9) ?_
  refine w_v (v := .bool true) (x_pick_t rfl rfl (neg_of hb9) rfl) ?_
  refine w_e ?_
  refine g_cond_t rfl rfl ?_
  refine w_s ?_
  refine l_of (s_call0 H8 (wt0 rfl) (x_call' rfl rfl cl6) (awake_s _) rfl rfl ?_)
  intro wq89 H90
  refine w_a ?_
  refine w_e ?_
  refine g_weak [(6, .bool true)] ⟨rfl, trivial⟩ ?_
  refine g_ret ?_
  refine g_then_ret ?_
  refine fin_ret [.tmp 6] [.bool true] rfl ⟨rfl, trivial⟩ ?_
  exact ⟨rfl, H90.mask [false, false, true]⟩
set_option maxRecDepth 20000 in
set_option maxHeartbeats 4000000 in
theorem refused_f (n p l q : Int) (ft : Bool) (ls : List Sn) (pl : Option Addr) (cl : Nat) (hm : ls.length ≤ 9223372036854775807) (mz : M) (w : World) (hr : Reads w pl ls.length cl 9 (snV ls)) : Calls Tryz.prog 3 #[.agg #[.int .i64 n, .int .i64 p, .int .i64 l, .int .i64 q, .bool ft], .slice pl ls.length cl, .agg #[.bool false, .int .i64 (mz.kind), .int .i64 (mz.i1), .int .i64 (mz.i2), .int .i64 (mz.i3), .int .i64 (mz.i4), .int .i64 (mz.i5), .string (mz.root), .string (mz.data)]] w fun e w' => e = .returned (.bool true) ∧ S w' [Old w no] := by
 have H0 := S.old w
 refine enter 96 Tryz.func3 rfl rfl rfl ?_
 refine g_weak [(0, .agg #[.int .i64 n, .int .i64 p, .int .i64 l, .int .i64 q, .bool ft]), (1, .slice pl ls.length cl), (2, .agg #[.bool false, .int .i64 (mz.kind), .int .i64 (mz.i1), .int .i64 (mz.i2), .int .i64 (mz.i3), .int .i64 (mz.i4), .int .i64 (mz.i5), .string (mz.root), .string (mz.data)])] ⟨rfl, rfl, rfl, trivial⟩ ?_
 refine w_s ?_
 refine l_of (s_box H0 (wt0 rfl) rfl rfl rfl rfl ?_)
 intro g1 wq2 H3
 refine l_of (s_box H3 (wt0 rfl) rfl rfl rfl rfl ?_)
 intro g4 wq5 H6
 refine w_a ?_
 refine w_e ?_
 refine g_seq ?_
 refine w_s ?_
 refine w_m ?_
 refine l_of (s_call (wt0 rfl) (x_call' rfl rfl cl5) (light_s ls pl cl hm _ (H6.oldReads (k := 2) rfl hr)) ?_)
 rintro _ wq7 ⟨bl, rfl, hbl, H8⟩
 replace H8 : S wq7 [Ob g4 (.cells #[.bool false, .int .i64 (mz.kind), .int .i64 (mz.i1), .int .i64 (mz.i2), .int .i64 (mz.i3), .int .i64 (mz.i4), .int .i64 (mz.i5), .string (mz.root), .string (mz.data)] 28 (0, 0)), Ob g1 (.cells #[.int .i64 n, .int .i64 p, .int .i64 l, .int .i64 q, .bool ft] 23 (0, 0)), Old w no] := H6.absorb (new := []) H8
 refine b_ret rfl rfl ?_
 refine w_v (v := .bool (!bl)) (x_not (b := bl) rfl rfl) ?_
 refine w_m ?_
 rcases Bool.eq_false_or_eq_true (bl) with hb9 | hb9
 ·
  have h60 := hbl hb9
  refine w_g (v := .agg #[.bool false, .int .i64 (mz.kind), .int .i64 (mz.i1), .int .i64 (mz.i2), .int .i64 (mz.i3), .int .i64 (mz.i4), .int .i64 (mz.i5), .string (mz.root), .string (mz.data)]) (neg_of hb9) (x_loadA H8 0 rfl rfl Tryz.underlying28 rfl sz28 rfl rfl rfl) ?_
  refine l_of (s_buildSlice H8 (wt1 rfl rfl rfl rfl (neg_of hb9)) rfl rfl rfl (vs := [.agg #[.bool false, .int .i64 (mz.kind), .int .i64 (mz.i1), .int .i64 (mz.i2), .int .i64 (mz.i3), .int .i64 (mz.i4), .int .i64 (mz.i5), .string (mz.root), .string (mz.data)]]) rfl Tryz.underlying24 sz28 ze28 rfl rfl (cells := #[.bool false, .int .i64 (mz.kind), .int .i64 (mz.i1), .int .i64 (mz.i2), .int .i64 (mz.i3), .int .i64 (mz.i4), .int .i64 (mz.i5), .string (mz.root), .string (mz.data)]) (by kernel_rfl) ?_)
  intro g10 wq11 H12
  refine l_of (s_call (wt1 rfl rfl rfl rfl (neg_of hb9)) (x_call' rfl rfl cl5) (light_s [⟨false, mz⟩] (some ⟨g10, 0, none⟩) 1 (by show 1 ≤ _; omega) _ ((H12.obRw (k := 0) (n := 1) (size := 9) rfl rfl (by decide)).rwReads (k := 0) (by rfl))) ?_)
  rintro _ wq13 ⟨bl2, rfl, hbl2, H14⟩
  replace H14 : S wq13 [Ob g10 (.cells #[.bool false, .int .i64 (mz.kind), .int .i64 (mz.i1), .int .i64 (mz.i2), .int .i64 (mz.i3), .int .i64 (mz.i4), .int .i64 (mz.i5), .string (mz.root), .string (mz.data)] 28 (0, 0)), Ob g4 (.cells #[.bool false, .int .i64 (mz.kind), .int .i64 (mz.i1), .int .i64 (mz.i2), .int .i64 (mz.i3), .int .i64 (mz.i4), .int .i64 (mz.i5), .string (mz.root), .string (mz.data)] 28 (0, 0)), Ob g1 (.cells #[.int .i64 n, .int .i64 p, .int .i64 l, .int .i64 q, .bool ft] 23 (0, 0)), Old w no] := H12.absorb (new := []) H14
  refine b_ret rfl rfl ?_
  refine w_g (v := .bool (!bl2)) (neg_of hb9) (x_not (b := bl2) rfl rfl) ?_
  refine w_v (v := .bool (!bl2)) (x_pick_f rfl rfl (neg_of hb9) rfl) ?_
  refine w_e ?_
  rcases Bool.eq_false_or_eq_true (bl2) with hb15 | hb15
  ·
   refine g_cond_f rfl (neg_of hb15) ?_
   refine g_skip ?_
   refine g_then ?_
   refine g_weak [(1, .slice pl ls.length cl), (3, .pointer (some ⟨g1, 0, none⟩)), (5, .pointer (some ⟨g4, 0, none⟩))] ⟨rfl, rfl, rfl, trivial⟩ ?_
   refine w_s ?_
   refine w_v (v := .agg #[.int .i64 n, .int .i64 p, .int .i64 l, .int .i64 q, .bool ft]) (x_loadA H14 2 rfl rfl Tryz.underlying23 rfl sz23 rfl rfl rfl) ?_
   by_cases hg : goodU n p l q
   ·
    refine l_of (s_call (wt0 rfl) (x_call' rfl rfl cl7) (begin_ok n p l q ft hg _) ?_)
    rintro _ wq16 ⟨sg, B0, B1, rg, C0, C1, rfl, H17⟩
    replace H17 : S wq16 [sgI sg (Co.mk n p l q ft) true B1 B0 (Wy.new n) (Wy.new n), alI B1 (Wy.new n), waI B1 (Wy.new n), goI B1 (Wy.new n), alI B0 (Wy.new n), waI B0 (Wy.new n), goI B0 (Wy.new n), rgI rg (Co.mk n p l q ft) true C1 C0 (Wy.new n) (Wy.new n), alR C1 (Wy.new n), rqI C1 (Wy.new n), alR C0 (Wy.new n), rqI C0 (Wy.new n), Ob g10 (.cells #[.bool false, .int .i64 (mz.kind), .int .i64 (mz.i1), .int .i64 (mz.i2), .int .i64 (mz.i3), .int .i64 (mz.i4), .int .i64 (mz.i5), .string (mz.root), .string (mz.data)] 28 (0, 0)), Ob g4 (.cells #[.bool false, .int .i64 (mz.kind), .int .i64 (mz.i1), .int .i64 (mz.i2), .int .i64 (mz.i3), .int .i64 (mz.i4), .int .i64 (mz.i5), .string (mz.root), .string (mz.data)] 28 (0, 0)), Ob g1 (.cells #[.int .i64 n, .int .i64 p, .int .i64 l, .int .i64 q, .bool ft] 23 (0, 0)), Old w no] := H14.absorb (new := [sgI sg (Co.mk n p l q ft) true B1 B0 (Wy.new n) (Wy.new n), alI B1 (Wy.new n), waI B1 (Wy.new n), goI B1 (Wy.new n), alI B0 (Wy.new n), waI B0 (Wy.new n), goI B0 (Wy.new n), rgI rg (Co.mk n p l q ft) true C1 C0 (Wy.new n) (Wy.new n), alR C1 (Wy.new n), rqI C1 (Wy.new n), alR C0 (Wy.new n), rqI C0 (Wy.new n)]) H17
    have hn : 1 ≤ (Co.mk n p l q ft).n ∧ (Co.mk n p l q ft).n ≤ 4096 := ⟨hg.1, hg.2.1⟩
    have hw00 : WK (Co.mk n p l q ft) 0 (Wy.new n) := WK.new (c := (Co.mk n p l q ft)) (show 0 ≤ n ∧ n ≤ 4096 from ⟨by have := hg.1; omega, hg.2.1⟩)
    refine b_ret rfl rfl ?_
    refine w_r9 ?_
    refine w_e ?_
    refine g_seq ?_
    refine w_s ?_
    refine w_m ?_
    refine w_v (v := .bool false) (x_not (b := true) rfl rfl) ?_
    refine w_m ?_
    refine w_g rfl xm ?_
    refine w_g (v := .bool false) rfl (x_not (b := true) rfl rfl) ?_
    refine w_v (v := .bool false) (x_pick_f rfl rfl rfl rfl) ?_
    refine w_e ?_
    refine g_weak [(1, .slice pl ls.length cl), (5, .pointer (some ⟨g4, 0, none⟩)), (7, .pointer (some ⟨sg, 0, none⟩)), (8, .pointer (some ⟨rg, 0, none⟩)), (9, .bool true), (37, .bool false)] ⟨rfl, rfl, rfl, rfl, rfl, rfl, trivial⟩ ?_
    refine g_cond_f rfl rfl ?_
    refine g_skip ?_
    refine g_then ?_
    refine g_seq ?_
    refine w_s ?_
    refine w_m ?_
    refine w_v (v := .int .i64 ((ls.length : Int))) (x_lenl rfl rfl Tryz.underlying24) ?_
    refine w_m ?_
    refine w_e ?_
    refine g_block ?_
    refine g_loop (ι := Nat × Wy × Wy × Ad × Ad × RAd × RAd) (fun (k, a0, a1, A0, A1, R0, R1) => [(5, .pointer (some ⟨g4, 0, none⟩)), (7, .pointer (some ⟨sg, 0, none⟩)), (8, .pointer (some ⟨rg, 0, none⟩)), (42, .slice pl ls.length cl), (43, .int .i64 ((ls.length : Int))), (44, .int .i64 ((k : Int)))]) (fun (k, a0, a1, A0, A1, R0, R1) wx => (k ≤ ls.length) ∧ (WK (Co.mk n p l q ft) k a0) ∧ (WK (Co.mk n p l q ft) k a1) ∧ S wx [sgI sg (Co.mk n p l q ft) true A1 A0 a1 a0, alI A1 a1, waI A1 a1, goI A1 a1, alI A0 a0, waI A0 a0, goI A0 a0, rgI rg (Co.mk n p l q ft) true R1 R0 a1 a0, alR R1 a1, rqI R1 a1, alR R0 a0, rqI R0 a0, Ob g10 (.cells #[.bool false, .int .i64 (mz.kind), .int .i64 (mz.i1), .int .i64 (mz.i2), .int .i64 (mz.i3), .int .i64 (mz.i4), .int .i64 (mz.i5), .string (mz.root), .string (mz.data)] 28 (0, 0)), Ob g4 (.cells #[.bool false, .int .i64 (mz.kind), .int .i64 (mz.i1), .int .i64 (mz.i2), .int .i64 (mz.i3), .int .i64 (mz.i4), .int .i64 (mz.i5), .string (mz.root), .string (mz.data)] 28 (0, 0)), Ob g1 (.cells #[.int .i64 n, .int .i64 p, .int .i64 l, .int .i64 q, .bool ft] 23 (0, 0)), Old w no]) (fun (k, a0, a1, A0, A1, R0, R1) => ls.length - k) (0, (Wy.new n), (Wy.new n), B0, B1, C0, C1) ⟨rfl, rfl, rfl, rfl, rfl, rfl, trivial⟩ ⟨Nat.zero_le _, hw00, hw00, (H17.takes [0, 1, 2, 3, 4, 5, 6, 7, 8, 9, 10, 11, 12, 13, 14, 15] (by decide))⟩ ?_
    rintro ⟨k, a0, a1, A0, A1, R0, R1⟩ wq18 ⟨hk, hw0, hw1, H19⟩
    refine g_weak [(5, .pointer (some ⟨g4, 0, none⟩)), (7, .pointer (some ⟨sg, 0, none⟩)), (8, .pointer (some ⟨rg, 0, none⟩)), (42, .slice pl ls.length cl), (43, .int .i64 ((ls.length : Int))), (44, .int .i64 ((k : Int)))] ⟨rfl, rfl, rfl, rfl, rfl, rfl, trivial⟩ ?_
    refine w_s ?_
    refine w_b ?_
    refine w_e ?_
    refine g_seq ?_
    by_cases hb20 : ((k : Int) : Int) < (ls.length : Int)
    ·
     refine g_cond_t rfl (decide_eq_true hb20) ?_
     refine g_skip ?_
     refine g_then ?_
     refine g_seq ?_
     refine g_block ?_
     refine w_s ?_
     refine w_v (v := .pointer ((pl).map fun q => q.add (k * 9))) (x_idxR k (H19.oldReads (k := 15) rfl hr) rfl rfl rfl Tryz.underlying24 sz28 (by omega)) ?_
     rcases hsn : ls.getD k S0 with ⟨o, m⟩
     cases o
     ·
      refine w_v (v := .agg #[.bool false, .int .i64 (m.kind), .int .i64 (m.i1), .int .i64 (m.i2), .int .i64 (m.i3), .int .i64 (m.i4), .int .i64 (m.i5), .string (m.root), .string (m.data)]) (x_loadRA (vs := snL ⟨false, m⟩) k (H19.oldReads (k := 15) rfl hr) (by omega) rfl rfl Tryz.underlying28 rfl sz28 (by rfl) (by rw [← hsn]; exact snV_at (by omega))) ?_
      refine l_of (s_alloc H19 (wt0 rfl) rfl rfl rfl ze28 ?_)
      intro g21 wq22 H23
      refine l_of (w_st #[.bool false, .int .i64 (m.kind), .int .i64 (m.i1), .int .i64 (m.i2), .int .i64 (m.i3), .int .i64 (m.i4), .int .i64 (m.i5), .string (m.root), .string (m.data)] H23 0 ?_)
      intro wq24 H25
      refine w_e ?_
      refine w_s ?_
      refine w_r2 ?_
      refine w_1 H25 0 ?_
      refine w_f 1 ?_
      refine w_v (v := .agg m.cells) (x_loadA H25 0 rfl rfl Tryz.underlying26 rfl sz26 rfl rfl rfl) ?_
      refine l_of (s_call (wt0 rfl) (x_call' rfl rfl cl8) (stepF_o sg (Co.mk n p l q ft) false A0 A1 a0 a1 m hn (hw0.wok (by omega)) (hw1.wok (by omega)) _ (H25.takes [1, 5, 6, 7, 2, 3, 4] (by decide))) ?_)
      rintro _ wq28 ⟨A26, A27, rfl, H29⟩
      replace H29 : S wq28 [sgI sg (Co.mk n p l q ft) true A27 A26 (mayQ (Co.mk n p l q ft) a0 a1 m) (mayO (Co.mk n p l q ft) a0 a1 m), alI A26 (mayO (Co.mk n p l q ft) a0 a1 m), waI A26 (mayO (Co.mk n p l q ft) a0 a1 m), goI A26 (mayO (Co.mk n p l q ft) a0 a1 m), alI A27 (mayQ (Co.mk n p l q ft) a0 a1 m), waI A27 (mayQ (Co.mk n p l q ft) a0 a1 m), goI A27 (mayQ (Co.mk n p l q ft) a0 a1 m), Ob g21 (.cells #[.bool false, .int .i64 (m.kind), .int .i64 (m.i1), .int .i64 (m.i2), .int .i64 (m.i3), .int .i64 (m.i4), .int .i64 (m.i5), .string (m.root), .string (m.data)] 28 (0, 0)), rgI rg (Co.mk n p l q ft) true R1 R0 a1 a0, alR R1 a1, rqI R1 a1, alR R0 a0, rqI R0 a0, Ob g10 (.cells #[.bool false, .int .i64 (mz.kind), .int .i64 (mz.i1), .int .i64 (mz.i2), .int .i64 (mz.i3), .int .i64 (mz.i4), .int .i64 (mz.i5), .string (mz.root), .string (mz.data)] 28 (0, 0)), Ob g4 (.cells #[.bool false, .int .i64 (mz.kind), .int .i64 (mz.i1), .int .i64 (mz.i2), .int .i64 (mz.i3), .int .i64 (mz.i4), .int .i64 (mz.i5), .string (mz.root), .string (mz.data)] 28 (0, 0)), Ob g1 (.cells #[.int .i64 n, .int .i64 p, .int .i64 l, .int .i64 q, .bool ft] 23 (0, 0)), Old w no] := by have h := H25.absorbI [1, 5, 6, 7, 2, 3, 4] H29; exact h
      refine b_ret rfl rfl ?_
      refine w_e ?_
      refine g_region ?_
      refine w_r2 ?_
      refine w_1 H29 7 ?_
      refine w_f 1 ?_
      refine w_v (v := .agg m.cells) (x_loadA H29 7 rfl rfl Tryz.underlying26 rfl sz26 rfl rfl rfl) ?_
      have hw32 := hw0.mayO (a := a0) (b := a1) (m := m) hn
      have hw33 := hw1.mayQ (a := a0) (b := a1) (m := m) hn
      refine l_of (s_call (wt0 rfl) (x_call' rfl rfl cl9) (stepR_o rg (Co.mk n p l q ft) false R0 R1 a0 a1 m k (by omega) hn hw0 hw1 _ (H29.takes [8, 11, 12, 9, 10] (by decide))) ?_)
      rintro _ wq34 ⟨R30, R31, rfl, H35⟩
      replace H35 : S wq34 [rgI rg (Co.mk n p l q ft) true R31 R30 (mayQ (Co.mk n p l q ft) a0 a1 m) (mayO (Co.mk n p l q ft) a0 a1 m), alR R30 (mayO (Co.mk n p l q ft) a0 a1 m), rqI R30 (mayO (Co.mk n p l q ft) a0 a1 m), alR R31 (mayQ (Co.mk n p l q ft) a0 a1 m), rqI R31 (mayQ (Co.mk n p l q ft) a0 a1 m), sgI sg (Co.mk n p l q ft) true A27 A26 (mayQ (Co.mk n p l q ft) a0 a1 m) (mayO (Co.mk n p l q ft) a0 a1 m), alI A26 (mayO (Co.mk n p l q ft) a0 a1 m), waI A26 (mayO (Co.mk n p l q ft) a0 a1 m), goI A26 (mayO (Co.mk n p l q ft) a0 a1 m), alI A27 (mayQ (Co.mk n p l q ft) a0 a1 m), waI A27 (mayQ (Co.mk n p l q ft) a0 a1 m), goI A27 (mayQ (Co.mk n p l q ft) a0 a1 m), Ob g21 (.cells #[.bool false, .int .i64 (m.kind), .int .i64 (m.i1), .int .i64 (m.i2), .int .i64 (m.i3), .int .i64 (m.i4), .int .i64 (m.i5), .string (m.root), .string (m.data)] 28 (0, 0)), Ob g10 (.cells #[.bool false, .int .i64 (mz.kind), .int .i64 (mz.i1), .int .i64 (mz.i2), .int .i64 (mz.i3), .int .i64 (mz.i4), .int .i64 (mz.i5), .string (mz.root), .string (mz.data)] 28 (0, 0)), Ob g4 (.cells #[.bool false, .int .i64 (mz.kind), .int .i64 (mz.i1), .int .i64 (mz.i2), .int .i64 (mz.i3), .int .i64 (mz.i4), .int .i64 (mz.i5), .string (mz.root), .string (mz.data)] 28 (0, 0)), Ob g1 (.cells #[.int .i64 n, .int .i64 p, .int .i64 l, .int .i64 q, .bool ft] 23 (0, 0)), Old w no] := by have h := H29.absorbI [8, 11, 12, 9, 10] H35; exact h
      refine b_ret rfl rfl ?_
      refine g_nil ?_
      refine g_in ?_
      refine g_then ?_
      refine g_weak [(5, .pointer (some ⟨g4, 0, none⟩)), (7, .pointer (some ⟨sg, 0, none⟩)), (8, .pointer (some ⟨rg, 0, none⟩)), (42, .slice pl ls.length cl), (43, .int .i64 ((ls.length : Int))), (44, .int .i64 ((k : Int)))] ⟨rfl, rfl, rfl, rfl, rfl, rfl, trivial⟩ ?_
      refine g_region ?_
      refine w_b (v := .int .i64 ((k : Int) + 1)) (hb := (b_add (w64 (by omega)))) ?_
      refine w_m ?_
      refine w_e ?_
      refine g_round (i := (k, a0, a1, A0, A1, R0, R1)) ((k + 1), (mayO (Co.mk n p l q ft) a0 a1 m), (mayQ (Co.mk n p l q ft) a0 a1 m), A26, A27, R30, R31) ?_ ?_ ?_
      · exact ⟨rfl, rfl, rfl, rfl, rfl, rfl, trivial⟩
      · exact ⟨by omega, hw32, hw33, (H35.takes [5, 9, 10, 11, 6, 7, 8, 0, 3, 4, 1, 2, 13, 14, 15, 16] (by decide))⟩
      · (try dsimp only); omega
     ·
      refine w_v (v := .agg #[.bool true, .int .i64 (m.kind), .int .i64 (m.i1), .int .i64 (m.i2), .int .i64 (m.i3), .int .i64 (m.i4), .int .i64 (m.i5), .string (m.root), .string (m.data)]) (x_loadRA (vs := snL ⟨true, m⟩) k (H19.oldReads (k := 15) rfl hr) (by omega) rfl rfl Tryz.underlying28 rfl sz28 (by rfl) (by rw [← hsn]; exact snV_at (by omega))) ?_
      refine l_of (s_alloc H19 (wt0 rfl) rfl rfl rfl ze28 ?_)
      intro g36 wq37 H38
      refine l_of (w_st #[.bool true, .int .i64 (m.kind), .int .i64 (m.i1), .int .i64 (m.i2), .int .i64 (m.i3), .int .i64 (m.i4), .int .i64 (m.i5), .string (m.root), .string (m.data)] H38 0 ?_)
      intro wq39 H40
      refine w_e ?_
      refine w_s ?_
      refine w_r2 ?_
      refine w_1 H40 0 ?_
      refine w_f 1 ?_
      refine w_v (v := .agg m.cells) (x_loadA H40 0 rfl rfl Tryz.underlying26 rfl sz26 rfl rfl rfl) ?_
      refine l_of (s_call (wt0 rfl) (x_call' rfl rfl cl8) (stepF_o sg (Co.mk n p l q ft) true A1 A0 a1 a0 m hn (hw1.wok (by omega)) (hw0.wok (by omega)) _ (H40.takes [1, 2, 3, 4, 5, 6, 7] (by decide))) ?_)
      rintro _ wq43 ⟨A42, A41, rfl, H44⟩
      replace H44 : S wq43 [sgI sg (Co.mk n p l q ft) true A42 A41 (mayO (Co.mk n p l q ft) a1 a0 m) (mayQ (Co.mk n p l q ft) a1 a0 m), alI A42 (mayO (Co.mk n p l q ft) a1 a0 m), waI A42 (mayO (Co.mk n p l q ft) a1 a0 m), goI A42 (mayO (Co.mk n p l q ft) a1 a0 m), alI A41 (mayQ (Co.mk n p l q ft) a1 a0 m), waI A41 (mayQ (Co.mk n p l q ft) a1 a0 m), goI A41 (mayQ (Co.mk n p l q ft) a1 a0 m), Ob g36 (.cells #[.bool true, .int .i64 (m.kind), .int .i64 (m.i1), .int .i64 (m.i2), .int .i64 (m.i3), .int .i64 (m.i4), .int .i64 (m.i5), .string (m.root), .string (m.data)] 28 (0, 0)), rgI rg (Co.mk n p l q ft) true R1 R0 a1 a0, alR R1 a1, rqI R1 a1, alR R0 a0, rqI R0 a0, Ob g10 (.cells #[.bool false, .int .i64 (mz.kind), .int .i64 (mz.i1), .int .i64 (mz.i2), .int .i64 (mz.i3), .int .i64 (mz.i4), .int .i64 (mz.i5), .string (mz.root), .string (mz.data)] 28 (0, 0)), Ob g4 (.cells #[.bool false, .int .i64 (mz.kind), .int .i64 (mz.i1), .int .i64 (mz.i2), .int .i64 (mz.i3), .int .i64 (mz.i4), .int .i64 (mz.i5), .string (mz.root), .string (mz.data)] 28 (0, 0)), Ob g1 (.cells #[.int .i64 n, .int .i64 p, .int .i64 l, .int .i64 q, .bool ft] 23 (0, 0)), Old w no] := by have h := H40.absorbI [1, 2, 3, 4, 5, 6, 7] H44; exact h
      refine b_ret rfl rfl ?_
      refine w_e ?_
      refine g_region ?_
      refine w_r2 ?_
      refine w_1 H44 7 ?_
      refine w_f 1 ?_
      refine w_v (v := .agg m.cells) (x_loadA H44 7 rfl rfl Tryz.underlying26 rfl sz26 rfl rfl rfl) ?_
      have hw48 := hw1.mayO (a := a1) (b := a0) (m := m) hn
      have hw47 := hw0.mayQ (a := a1) (b := a0) (m := m) hn
      refine l_of (s_call (wt0 rfl) (x_call' rfl rfl cl9) (stepR_o rg (Co.mk n p l q ft) true R1 R0 a1 a0 m k (by omega) hn hw1 hw0 _ (H44.takes [8, 9, 10, 11, 12] (by decide))) ?_)
      rintro _ wq49 ⟨R46, R45, rfl, H50⟩
      replace H50 : S wq49 [rgI rg (Co.mk n p l q ft) true R46 R45 (mayO (Co.mk n p l q ft) a1 a0 m) (mayQ (Co.mk n p l q ft) a1 a0 m), alR R46 (mayO (Co.mk n p l q ft) a1 a0 m), rqI R46 (mayO (Co.mk n p l q ft) a1 a0 m), alR R45 (mayQ (Co.mk n p l q ft) a1 a0 m), rqI R45 (mayQ (Co.mk n p l q ft) a1 a0 m), sgI sg (Co.mk n p l q ft) true A42 A41 (mayO (Co.mk n p l q ft) a1 a0 m) (mayQ (Co.mk n p l q ft) a1 a0 m), alI A42 (mayO (Co.mk n p l q ft) a1 a0 m), waI A42 (mayO (Co.mk n p l q ft) a1 a0 m), goI A42 (mayO (Co.mk n p l q ft) a1 a0 m), alI A41 (mayQ (Co.mk n p l q ft) a1 a0 m), waI A41 (mayQ (Co.mk n p l q ft) a1 a0 m), goI A41 (mayQ (Co.mk n p l q ft) a1 a0 m), Ob g36 (.cells #[.bool true, .int .i64 (m.kind), .int .i64 (m.i1), .int .i64 (m.i2), .int .i64 (m.i3), .int .i64 (m.i4), .int .i64 (m.i5), .string (m.root), .string (m.data)] 28 (0, 0)), Ob g10 (.cells #[.bool false, .int .i64 (mz.kind), .int .i64 (mz.i1), .int .i64 (mz.i2), .int .i64 (mz.i3), .int .i64 (mz.i4), .int .i64 (mz.i5), .string (mz.root), .string (mz.data)] 28 (0, 0)), Ob g4 (.cells #[.bool false, .int .i64 (mz.kind), .int .i64 (mz.i1), .int .i64 (mz.i2), .int .i64 (mz.i3), .int .i64 (mz.i4), .int .i64 (mz.i5), .string (mz.root), .string (mz.data)] 28 (0, 0)), Ob g1 (.cells #[.int .i64 n, .int .i64 p, .int .i64 l, .int .i64 q, .bool ft] 23 (0, 0)), Old w no] := by have h := H44.absorbI [8, 9, 10, 11, 12] H50; exact h
      refine b_ret rfl rfl ?_
      refine g_nil ?_
      refine g_in ?_
      refine g_then ?_
      refine g_weak [(5, .pointer (some ⟨g4, 0, none⟩)), (7, .pointer (some ⟨sg, 0, none⟩)), (8, .pointer (some ⟨rg, 0, none⟩)), (42, .slice pl ls.length cl), (43, .int .i64 ((ls.length : Int))), (44, .int .i64 ((k : Int)))] ⟨rfl, rfl, rfl, rfl, rfl, rfl, trivial⟩ ?_
      refine g_region ?_
      refine w_b (v := .int .i64 ((k : Int) + 1)) (hb := (b_add (w64 (by omega)))) ?_
      refine w_m ?_
      refine w_e ?_
      refine g_round (i := (k, a0, a1, A0, A1, R0, R1)) ((k + 1), (mayQ (Co.mk n p l q ft) a1 a0 m), (mayO (Co.mk n p l q ft) a1 a0 m), A41, A42, R45, R46) ?_ ?_ ?_
      · exact ⟨rfl, rfl, rfl, rfl, rfl, rfl, trivial⟩
      · exact ⟨by omega, hw47, hw48, (H50.takes [5, 6, 7, 8, 9, 10, 11, 0, 1, 2, 3, 4, 13, 14, 15, 16] (by decide))⟩
      · (try dsimp only); omega
    ·
     refine g_cond_f rfl (decide_eq_false hb20) ?_
     refine g_exit ?_
     refine g_then_exit ?_
     refine g_then_exit ?_
     refine g_in_hit ?_
     refine g_then ?_
     refine w_s ?_
     refine w_m ?_
     refine l_of (s_call (wt0 rfl) (x_call' rfl rfl cl10) (copy_o sg (Co.mk n p l q ft) true A1 A0 a1 a0 (hw1.wok (by omega)).g (hw0.wok (by omega)).g (hw1.wok (by omega)).al (hw1.wok (by omega)).wa (hw0.wok (by omega)).al (hw0.wok (by omega)).wa _ (H19.takes [0, 1, 2, 3, 4, 5, 6] (by decide))) ?_)
     rintro _ wq54 ⟨gq51, B53, B52, rfl, H55⟩
     replace H55 : S wq54 [sgI gq51 (Co.mk n p l q ft) true B53 B52 a1 a0, alI B53 a1, waI B53 a1, goI B53 a1, alI B52 a0, waI B52 a0, goI B52 a0, sgI sg (Co.mk n p l q ft) true A1 A0 a1 a0, alI A1 a1, waI A1 a1, goI A1 a1, alI A0 a0, waI A0 a0, goI A0 a0, rgI rg (Co.mk n p l q ft) true R1 R0 a1 a0, alR R1 a1, rqI R1 a1, alR R0 a0, rqI R0 a0, Ob g10 (.cells #[.bool false, .int .i64 (mz.kind), .int .i64 (mz.i1), .int .i64 (mz.i2), .int .i64 (mz.i3), .int .i64 (mz.i4), .int .i64 (mz.i5), .string (mz.root), .string (mz.data)] 28 (0, 0)), Ob g4 (.cells #[.bool false, .int .i64 (mz.kind), .int .i64 (mz.i1), .int .i64 (mz.i2), .int .i64 (mz.i3), .int .i64 (mz.i4), .int .i64 (mz.i5), .string (mz.root), .string (mz.data)] 28 (0, 0)), Ob g1 (.cells #[.int .i64 n, .int .i64 p, .int .i64 l, .int .i64 q, .bool ft] 23 (0, 0)), Old w no] := by have h := H19.absorbI [0, 1, 2, 3, 4, 5, 6] H55; exact h
     refine b_ret rfl rfl ?_
     refine w_a ?_
     refine w_e ?_
     refine g_seq ?_
     refine w_s ?_
     refine w_m ?_
     refine w_b (v := .bool false) (hb := (b_eqN (r := false) Tryz.underlying31 rfl)) ?_
     refine w_e ?_
     refine g_cond_f rfl rfl ?_
     refine g_skip ?_
     refine g_then ?_
     refine w_s ?_
     refine w_r2 ?_
     refine w_1 H55 20 ?_
     refine w_f 1 ?_
     refine w_v (v := .agg mz.cells) (x_loadA H55 20 rfl rfl Tryz.underlying26 rfl sz26 rfl rfl rfl) ?_
     refine l_of (s_call (wt0 rfl) (x_call' rfl rfl cl8) (stepF_o gq51 (Co.mk n p l q ft) false B52 B53 a0 a1 mz hn (hw0.wok (by omega)) (hw1.wok (by omega)) _ (H55.takes [0, 4, 5, 6, 1, 2, 3] (by decide))) ?_)
     rintro _ wq58 ⟨A56, A57, rfl, H59⟩
     replace H59 : S wq58 [sgI gq51 (Co.mk n p l q ft) true A57 A56 (mayQ (Co.mk n p l q ft) a0 a1 mz) (mayO (Co.mk n p l q ft) a0 a1 mz), alI A56 (mayO (Co.mk n p l q ft) a0 a1 mz), waI A56 (mayO (Co.mk n p l q ft) a0 a1 mz), goI A56 (mayO (Co.mk n p l q ft) a0 a1 mz), alI A57 (mayQ (Co.mk n p l q ft) a0 a1 mz), waI A57 (mayQ (Co.mk n p l q ft) a0 a1 mz), goI A57 (mayQ (Co.mk n p l q ft) a0 a1 mz), sgI sg (Co.mk n p l q ft) true A1 A0 a1 a0, alI A1 a1, waI A1 a1, goI A1 a1, alI A0 a0, waI A0 a0, goI A0 a0, rgI rg (Co.mk n p l q ft) true R1 R0 a1 a0, alR R1 a1, rqI R1 a1, alR R0 a0, rqI R0 a0, Ob g10 (.cells #[.bool false, .int .i64 (mz.kind), .int .i64 (mz.i1), .int .i64 (mz.i2), .int .i64 (mz.i3), .int .i64 (mz.i4), .int .i64 (mz.i5), .string (mz.root), .string (mz.data)] 28 (0, 0)), Ob g4 (.cells #[.bool false, .int .i64 (mz.kind), .int .i64 (mz.i1), .int .i64 (mz.i2), .int .i64 (mz.i3), .int .i64 (mz.i4), .int .i64 (mz.i5), .string (mz.root), .string (mz.data)] 28 (0, 0)), Ob g1 (.cells #[.int .i64 n, .int .i64 p, .int .i64 l, .int .i64 q, .bool ft] 23 (0, 0)), Old w no] := by have h := H55.absorbI [0, 4, 5, 6, 1, 2, 3] H59; exact h
     refine b_ret rfl rfl ?_
     refine w_a ?_
     refine w_e ?_
     refine g_weak [(7, .pointer (some ⟨sg, 0, none⟩)), (8, .pointer (some ⟨rg, 0, none⟩)), (13, .pointer (some ⟨gq51, 0, none⟩)), (14, .int .i64 ((mayE (Co.mk n p l q ft) a0 a1 mz)))] ⟨rfl, rfl, rfl, rfl, trivial⟩ ?_
     refine g_seq ?_
     refine w_s ?_
     refine w_r2 ?_
     refine l_of (s_callK H59 [7, 8, 9, 10, 11, 12, 13, 14, 15, 16, 17, 18] [12, 13, 14, 15, 16, 17, 18, 0, 1, 2, 3, 4, 5, 6, 7, 8, 9, 10, 11, 19, 20, 21, 22] (by decide) rfl (wt0 rfl) (x_call' rfl rfl cl11) (fun _ => same_o sg rg (Co.mk n p l q ft) true A1 A0 R1 R0 a1 a0 (hw1.wok (by omega)) (hw0.wok (by omega)) hw1.ok _ (H59.takes [7, 8, 9, 10, 11, 12, 13, 14, 15, 16, 17, 18] (by decide))) (by decide) rfl rfl ?_)
     intro wq60 H62
     refine w_v (v := .bool false) (x_not (b := true) rfl rfl) ?_
     refine w_m ?_
     refine w_g rfl xm ?_
     refine w_g rfl xm ?_
     refine l_of (s_callK H62 [7, 11, 12, 13, 8, 9, 10, 14, 17, 18, 15, 16] [12, 13, 14, 15, 16, 17, 18, 0, 4, 5, 6, 1, 2, 3, 7, 10, 11, 8, 9, 19, 20, 21, 22] (by decide) rfl (wt1 rfl rfl rfl rfl rfl) (x_call' rfl rfl cl11) (fun _ => same_o sg rg (Co.mk n p l q ft) false A0 A1 R0 R1 a0 a1 (hw0.wok (by omega)) (hw1.wok (by omega)) hw0.ok _ (H62.takes [7, 11, 12, 13, 8, 9, 10, 14, 17, 18, 15, 16] (by decide))) (by decide) rfl rfl ?_)
     intro wq63 H65
     refine w_g (v := .bool false) rfl (x_not (b := true) rfl rfl) ?_
     refine w_v (v := .bool false) (x_pick_f rfl rfl rfl rfl) ?_
     refine w_e ?_
     refine g_cond_f rfl rfl ?_
     refine g_skip ?_
     refine g_then ?_
     refine g_seq ?_
     refine w_s ?_
     refine w_m ?_
     refine w_b (v := .bool (!decide (((mayE (Co.mk n p l q ft) a0 a1 mz) : Int) = 0))) (hb := b_neq) ?_
     refine w_m ?_
     by_cases hb66 : ((mayE (Co.mk n p l q ft) a0 a1 mz) : Int) = 0
     ·
      refine w_n (nf hb66) ?_
      refine w_n (nf hb66) ?_
      refine w_n (nf hb66) ?_
      refine w_n (nf hb66) ?_
      refine w_n (nf hb66) ?_
      refine l_of (s_not (wn2 rfl rfl rfl rfl) rfl rfl ?_)
      refine l_of (s_not (wn2 rfl rfl rfl rfl) rfl rfl ?_)
      refine l_of (s_not (wn2 rfl rfl rfl rfl) rfl rfl ?_)
      refine l_of (s_not (wn2 rfl rfl rfl rfl) rfl rfl ?_)
      refine w_n (nf hb66) ?_
      refine w_v (v := .bool false) (x_pick_f rfl rfl (nf hb66) rfl) ?_
      refine w_e ?_
      refine g_weak [(94, .bool false)] ⟨rfl, trivial⟩ ?_
      refine g_cond_f rfl rfl ?_
      refine g_skip ?_
      refine g_then ?_
      refine w_s ?_
      refine l_of (s_call0 H65 (wt0 rfl) (x_call' rfl rfl cl6) (awake_s _) rfl rfl ?_)
      intro wq67 H68
      refine w_a ?_
      refine w_e ?_
      refine g_ret ?_
      refine fin_ret [.tmp 6] [.bool true] rfl ⟨rfl, trivial⟩ ?_
      exact ⟨rfl, H68.mask [false, false, false, false, false, false, false, false, false, false, false, false, false, false, false, false, false, false, false, false, false, false, true]⟩
     ·
      refine w_g (nt hb66) xm ?_
      refine w_g (nt hb66) xm ?_
      obtain ⟨q70, q71⟩ := may_refused (hb66)
      have H69 : S wq63 [sgI gq51 (Co.mk n p l q ft) true A57 A56 a1 a0, alI A56 a0, waI A56 a0, goI A56 a0, alI A57 a1, waI A57 a1, goI A57 a1, sgI sg (Co.mk n p l q ft) true A1 A0 a1 a0, alI A1 a1, waI A1 a1, goI A1 a1, alI A0 a0, waI A0 a0, goI A0 a0, rgI rg (Co.mk n p l q ft) true R1 R0 a1 a0, alR R1 a1, rqI R1 a1, alR R0 a0, rqI R0 a0, Ob g10 (.cells #[.bool false, .int .i64 (mz.kind), .int .i64 (mz.i1), .int .i64 (mz.i2), .int .i64 (mz.i3), .int .i64 (mz.i4), .int .i64 (mz.i5), .string (mz.root), .string (mz.data)] 28 (0, 0)), Ob g4 (.cells #[.bool false, .int .i64 (mz.kind), .int .i64 (mz.i1), .int .i64 (mz.i2), .int .i64 (mz.i3), .int .i64 (mz.i4), .int .i64 (mz.i5), .string (mz.root), .string (mz.data)] 28 (0, 0)), Ob g1 (.cells #[.int .i64 n, .int .i64 p, .int .i64 l, .int .i64 q, .bool ft] 23 (0, 0)), Old w no] := by rw [q70, q71] at H65; exact H65
      refine l_of (s_callK H69 [0, 4, 5, 6, 1, 2, 3, 14, 15, 16, 17, 18] [0, 4, 5, 6, 1, 2, 3, 12, 13, 14, 15, 16, 17, 18, 7, 8, 9, 10, 11, 19, 20, 21, 22] (by decide) rfl (wt1 rfl rfl rfl rfl (nt hb66)) (x_call' rfl rfl cl11) (fun _ => same_o gq51 rg (Co.mk n p l q ft) true A57 A56 R1 R0 a1 a0 (hw1.wok (by omega)) (hw0.wok (by omega)) hw1.ok _ (H69.takes [0, 4, 5, 6, 1, 2, 3, 14, 15, 16, 17, 18] (by decide))) (by decide) rfl rfl ?_)
      intro wq72 H74
      refine w_g (v := .bool false) (nt hb66) (x_not (b := true) rfl rfl) ?_
      refine w_g (nt hb66) xm ?_
      refine w_g rfl xm ?_
      refine w_g rfl xm ?_
      refine l_of (s_callK H74 [0, 1, 2, 3, 4, 5, 6, 14, 17, 18, 15, 16] [0, 1, 2, 3, 4, 5, 6, 12, 13, 14, 15, 16, 17, 18, 7, 10, 11, 8, 9, 19, 20, 21, 22] (by decide) rfl (wt1 rfl rfl rfl rfl rfl) (x_call' rfl rfl cl11) (fun _ => same_o gq51 rg (Co.mk n p l q ft) false A56 A57 R0 R1 a0 a1 (hw0.wok (by omega)) (hw1.wok (by omega)) hw0.ok _ (H74.takes [0, 1, 2, 3, 4, 5, 6, 14, 17, 18, 15, 16] (by decide))) (by decide) rfl rfl ?_)
      intro wq78 H80
      refine w_g (v := .bool false) rfl (x_not (b := true) rfl rfl) ?_
      refine w_g (v := .bool false) (nt hb66) (x_pick_f rfl rfl rfl rfl) ?_
      refine w_v (v := .bool false) (x_pick_t rfl rfl (nt hb66) rfl) ?_
      refine w_e ?_
      refine g_weak [(94, .bool false)] ⟨rfl, trivial⟩ ?_
      refine g_cond_f rfl rfl ?_
      refine g_skip ?_
      refine g_then ?_
      refine w_s ?_
      refine l_of (s_call0 H80 (wt0 rfl) (x_call' rfl rfl cl6) (awake_s _) rfl rfl ?_)
      intro wq81 H82
      refine w_a ?_
      refine w_e ?_
      refine g_ret ?_
      refine fin_ret [.tmp 6] [.bool true] rfl ⟨rfl, trivial⟩ ?_
      exact ⟨rfl, H82.mask [false, false, false, false, false, false, false, false, false, false, false, false, false, false, false, false, false, false, false, false, false, false, true]⟩
   ·
    refine l_of (s_call0 H14 (wt0 rfl) (x_call' rfl rfl cl7) (begin_no n p l q ft hg _) rfl rfl ?_)
    intro wq83 H84
    refine w_r9 ?_
    refine w_e ?_
    refine g_seq ?_
    refine w_s ?_
    refine w_m ?_
    refine w_v (v := .bool false) (x_not (b := true) rfl rfl) ?_
    refine w_m ?_
    refine w_g rfl xm ?_
    refine w_g (v := .bool true) rfl (x_not (b := false) rfl rfl) ?_
    refine w_v (v := .bool true) (x_pick_f rfl rfl rfl rfl) ?_
    refine w_e ?_
    refine g_weak [(1, .slice pl ls.length cl), (5, .pointer (some ⟨g4, 0, none⟩)), (7, .pointer none), (8, .pointer none), (9, .bool true), (37, .bool true)] ⟨rfl, rfl, rfl, rfl, rfl, rfl, trivial⟩ ?_
    refine g_cond_t rfl rfl ?_
    refine w_s ?_
    refine w_r2 ?_
    refine l_of (s_call0 H84 (wt1 rfl rfl rfl rfl rfl) (x_call' rfl rfl cl6) (awake_s _) rfl rfl ?_)
    intro wq85 H86
    refine w_v (v := .bool true) (x_pick_t rfl rfl rfl rfl) ?_
    refine w_a ?_
    refine w_e ?_
    refine g_ret ?_
    refine g_then_ret ?_
    refine fin_ret [.tmp 6] [.bool true] rfl ⟨rfl, trivial⟩ ?_
    exact ⟨rfl, H86.mask [false, false, false, true]⟩
  ·
   refine g_cond_t rfl (neg_of hb15) ?_
   refine w_s ?_
   refine l_of (s_call0 H14 (wt0 rfl) (x_call' rfl rfl cl6) (awake_s _) rfl rfl ?_)
   intro wq87 H88
   refine w_a ?_
   refine w_e ?_
   refine g_weak [(6, .bool true)] ⟨rfl, trivial⟩ ?_
   refine g_ret ?_
   refine g_then_ret ?_
   refine fin_ret [.tmp 6] [.bool true] rfl ⟨rfl, trivial⟩ ?_
   exact ⟨rfl, H88.mask [false, false, false, true]⟩
 ·
  refine w_n (neg_of hb9) ?_
  refine w_n (neg_of hb9) ?_
  refine w_n (neg_of hb9) ?_
  refine w_n (neg_of hb9) ?_
  refine w_v (v := .bool true) (x_pick_t rfl rfl (neg_of hb9) rfl) ?_
  refine w_e ?_
  refine g_cond_t rfl rfl ?_
  refine w_s ?_
  refine l_of (s_call0 H8 (wt0 rfl) (x_call' rfl rfl cl6) (awake_s _) rfl rfl ?_)
  intro wq89 H90
  refine w_a ?_
  refine w_e ?_
  refine g_weak [(6, .bool true)] ⟨rfl, trivial⟩ ?_
  refine g_ret ?_
  refine g_then_ret ?_
  refine fin_ret [.tmp 6] [.bool true] rfl ⟨rfl, trivial⟩ ?_
  exact ⟨rfl, H90.mask [false, false, true]⟩
theorem refused_law (n p l q : Int) (ft : Bool) (ls : List Sn) (pl : Option Addr) (cl : Nat) (hm : ls.length ≤ 9223372036854775807) (o : Bool) (m : M) (w : World) (hr : Reads w pl ls.length cl 9 (snV ls)) : Calls Tryz.prog 3 #[.agg #[.int .i64 n, .int .i64 p, .int .i64 l, .int .i64 q, .bool ft], .slice pl ls.length cl, .agg (snL ⟨o, m⟩).toArray] w fun e w' => e = .returned (.bool true) ∧ S w' [Old w no] := by
  cases o
  · exact refused_f n p l q ft ls pl cl hm m w hr
  · exact refused_t n p l q ft ls pl cl hm m w hr
end Go.Proofs.YtdkfkdekiljcoaaGreat
