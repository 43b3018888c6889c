import Derived.Test.YtdkfkdekiljcoaaRK
set_option linter.unusedSimpArgs false
set_option linter.unusedVariables false
namespace Go.Proofs.Ytdkfkdekiljcoaa
open Go.RowKit

theorem cl10 : callable Try.prog 10 = true := by kernel_rfl
theorem cl11 : callable Try.prog 11 = true := by kernel_rfl
theorem cl12 : callable Try.prog 12 = true := by kernel_rfl
theorem cl13 : callable Try.prog 13 = true := by kernel_rfl
theorem cl14 : callable Try.prog 14 = true := by kernel_rfl
theorem cl16 : callable Try.prog 16 = true := by kernel_rfl
theorem cl17 : callable Try.prog 17 = true := by kernel_rfl
theorem cl5 : callable Try.prog 5 = true := by kernel_rfl
theorem cl6 : callable Try.prog 6 = true := by kernel_rfl
theorem cl9 : callable Try.prog 9 = true := by kernel_rfl
theorem owed_le {a : Wy} (h : a.wa.length ≤ 1099511627776) : (owedS a).length ≤ 1099511627776 := by have h9 := owed_len a a.wa.length; rw [owed_all] at h9; omega
set_option maxRecDepth 20000 in
set_option maxHeartbeats 4000000 in
theorem sides_law (n p l q : Int) (ft : Bool) (ls : List Sn) (pl : Option Addr) (cl : Nat) (hm : ls.length ≤ 9223372036854775807) (w : World) (hr : Reads w pl ls.length cl 9 (snV ls)) : Calls Try.prog 4 #[.agg #[.int .i64 n, .int .i64 p, .int .i64 l, .int .i64 q, .bool ft], .slice pl ls.length cl] w fun e w' => e = .returned (.bool true) ∧ S w' [Old w no] := by
 have H0 := S.old w
 refine enter 158 Try.func4 rfl rfl rfl ?_
 refine g_weak [(0, .agg #[.int .i64 n, .int .i64 p, .int .i64 l, .int .i64 q, .bool ft]), (1, .slice pl ls.length cl)] ⟨rfl, rfl, trivial⟩ ?_
 refine w_s ?_
 refine l_of (s_box H0 (wt0 rfl) rfl rfl rfl rfl ?_)
 intro g1 wq2 H3
 refine w_a ?_
 refine w_e ?_
 refine g_seq ?_
 refine w_s ?_
 refine w_m ?_
 refine l_of (s_call (wt0 rfl) (x_call' rfl rfl cl5) (light_s ls pl cl hm _ (H3.oldReads (k := 1) rfl hr)) ?_)
 rintro _ wq4 ⟨bl, rfl, hbl, H5⟩
 replace H5 : S wq4 [Ob g1 (.cells #[.int .i64 n, .int .i64 p, .int .i64 l, .int .i64 q, .bool ft] 23 (0, 0)), Old w no] := H3.absorb (new := []) H5
 refine b_ret rfl rfl ?_
 refine w_v (v := .bool (!bl)) (x_not (b := bl) rfl rfl) ?_
 refine w_e ?_
 rcases Bool.eq_false_or_eq_true (bl) with hb6 | hb6
 ·
  have h60 := hbl hb6
  refine g_cond_f rfl (neg_of hb6) ?_
  refine g_skip ?_
  refine g_then ?_
  refine w_s ?_
  refine w_f 0 ?_
  refine w_1 H5 0 ?_
  refine w_f 1 ?_
  refine w_1 H5 0 ?_
  refine w_f 2 ?_
  refine w_1 H5 0 ?_
  refine w_f 3 ?_
  refine w_1 H5 0 ?_
  refine w_f 4 ?_
  refine w_1 H5 0 ?_
  by_cases hg : goodU n p l q
  ·
   refine l_of (s_call (wt0 rfl) (x_call' rfl rfl cl7) (newF_ok ft hg _) ?_)
   rintro _ wq7 ⟨sg9, B10, B11, rfl, H8⟩
   replace H8 : S wq7 [sgI sg9 (Co.mk n p l q ft) true B11 B10 (Wy.new n) (Wy.new n), alI B11 (Wy.new n), waI B11 (Wy.new n), goI B11 (Wy.new n), alI B10 (Wy.new n), waI B10 (Wy.new n), goI B10 (Wy.new n), Ob g1 (.cells #[.int .i64 n, .int .i64 p, .int .i64 l, .int .i64 q, .bool ft] 23 (0, 0)), Old w no] := H5.absorb (new := [sgI sg9 (Co.mk n p l q ft) true B11 B10 (Wy.new n) (Wy.new n), alI B11 (Wy.new n), waI B11 (Wy.new n), goI B11 (Wy.new n), alI B10 (Wy.new n), waI B10 (Wy.new n), goI B10 (Wy.new n)]) H8
   have hn : 1 ≤ (Co.mk n p l q ft).n ∧ (Co.mk n p l q ft).n ≤ 4096 := ⟨hg.1, hg.2.1⟩
   have hw00 : WK (Co.mk n p l q ft) 0 (Wy.new n) := WK.new (c := (Co.mk n p l q ft)) (show 0 ≤ n ∧ n ≤ 4096 from ⟨by have := hg.1; omega, hg.2.1⟩)
   refine b_ret rfl rfl ?_
   refine w_r5 ?_
   refine w_e ?_
   refine g_weak [(1, .slice pl ls.length cl), (2, .pointer (some ⟨g1, 0, none⟩)), (5, .pointer (some ⟨sg9, 0, none⟩)), (6, .int .i64 0)] ⟨rfl, rfl, rfl, rfl, trivial⟩ ?_
   refine w_s ?_
   refine w_f 0 ?_
   refine w_1 H8 7 ?_
   refine w_f 1 ?_
   refine w_1 H8 7 ?_
   refine w_f 2 ?_
   refine w_1 H8 7 ?_
   refine w_f 3 ?_
   refine w_1 H8 7 ?_
   refine w_f 4 ?_
   refine w_1 H8 7 ?_
   refine l_of (s_call (wt0 rfl) (x_call' rfl rfl cl7) (newF_ok ft hg _) ?_)
   rintro _ wq12 ⟨sg14, B15, B16, rfl, H13⟩
   replace H13 : S wq12 [sgI sg14 (Co.mk n p l q ft) true B16 B15 (Wy.new n) (Wy.new n), alI B16 (Wy.new n), waI B16 (Wy.new n), goI B16 (Wy.new n), alI B15 (Wy.new n), waI B15 (Wy.new n), goI B15 (Wy.new n), sgI sg9 (Co.mk n p l q ft) true B11 B10 (Wy.new n) (Wy.new n), alI B11 (Wy.new n), waI B11 (Wy.new n), goI B11 (Wy.new n), alI B10 (Wy.new n), waI B10 (Wy.new n), goI B10 (Wy.new n), Ob g1 (.cells #[.int .i64 n, .int .i64 p, .int .i64 l, .int .i64 q, .bool ft] 23 (0, 0)), Old w no] := H8.absorb (new := [sgI sg14 (Co.mk n p l q ft) true B16 B15 (Wy.new n) (Wy.new n), alI B16 (Wy.new n), waI B16 (Wy.new n), goI B16 (Wy.new n), alI B15 (Wy.new n), waI B15 (Wy.new n), goI B15 (Wy.new n)]) H13
   refine b_ret rfl rfl ?_
   refine w_r5 ?_
   refine w_e ?_
   refine g_weak [(1, .slice pl ls.length cl), (5, .pointer (some ⟨sg9, 0, none⟩)), (6, .int .i64 0), (7, .pointer (some ⟨sg14, 0, none⟩)), (8, .int .i64 0)] ⟨rfl, rfl, rfl, rfl, rfl, trivial⟩ ?_
   refine g_seq ?_
   refine w_s ?_
   refine w_r2 ?_
   refine w_b (v := .bool (!decide ((0 : Int) = 0))) (hb := b_neq) ?_
   refine w_m ?_
   refine w_g (nf rfl) xm ?_
   refine w_g (v := .bool (!decide ((0 : Int) = 0))) (nf rfl) (x_bin rfl rfl rfl b_neq) ?_
   refine w_v (v := .bool (!decide ((0 : Int) = 0))) (x_pick_f rfl rfl (nf rfl) rfl) ?_
   refine w_e ?_
   refine g_cond_f rfl (nf rfl) ?_
   refine g_skip ?_
   refine g_then ?_
   refine g_seq ?_
   refine w_s ?_
   refine w_m ?_
   refine w_v (v := .int .i64 ((ls.length : Int))) (x_lenl rfl rfl Try.underlying24) ?_
   refine w_m ?_
   refine w_e ?_
   refine g_block ?_
   refine g_loop (ι := Nat × Wy × Wy × Ad × Ad × Ad × Ad) (fun (k, a0, a1, A0, A1, C0, C1) => [(5, .pointer (some ⟨sg9, 0, none⟩)), (7, .pointer (some ⟨sg14, 0, none⟩)), (58, .slice pl ls.length cl), (59, .int .i64 ((ls.length : Int))), (60, .int .i64 ((k : Int)))]) (fun (k, a0, a1, A0, A1, C0, C1) wx => (k ≤ ls.length) ∧ (WK (Co.mk n p l q ft) k a0) ∧ (WK (Co.mk n p l q ft) k a1) ∧ S wx [sgI sg9 (Co.mk n p l q ft) true A1 A0 a1 a0, alI A1 a1, waI A1 a1, goI A1 a1, alI A0 a0, waI A0 a0, goI A0 a0, sgI sg14 (Co.mk n p l q ft) true C1 C0 a0 a1, alI C1 a0, waI C1 a0, goI C1 a0, alI C0 a1, waI C0 a1, goI C0 a1, Ob g1 (.cells #[.int .i64 n, .int .i64 p, .int .i64 l, .int .i64 q, .bool ft] 23 (0, 0)), Old w no]) (fun (k, a0, a1, A0, A1, C0, C1) => ls.length - k) (0, (Wy.new n), (Wy.new n), B10, B11, B15, B16) ⟨rfl, rfl, rfl, rfl, rfl, trivial⟩ ⟨Nat.zero_le _, hw00, hw00, (H13.takes [7, 8, 9, 10, 11, 12, 13, 0, 1, 2, 3, 4, 5, 6, 14, 15] (by decide))⟩ ?_
   rintro ⟨k, a0, a1, A0, A1, C0, C1⟩ wq17 ⟨hk, hw0, hw1, H18⟩
   refine g_weak [(5, .pointer (some ⟨sg9, 0, none⟩)), (7, .pointer (some ⟨sg14, 0, none⟩)), (58, .slice pl ls.length cl), (59, .int .i64 ((ls.length : Int))), (60, .int .i64 ((k : Int)))] ⟨rfl, rfl, rfl, rfl, rfl, trivial⟩ ?_
   refine w_s ?_
   refine w_b ?_
   refine w_e ?_
   refine g_seq ?_
   by_cases hb19 : ((k : Int) : Int) < (ls.length : Int)
   ·
    refine g_cond_t rfl (decide_eq_true hb19) ?_
    refine g_skip ?_
    refine g_then ?_
    refine g_seq ?_
    refine g_block ?_
    refine w_s ?_
    refine w_v (v := .pointer ((pl).map fun q => q.add (k * 9))) (x_idxR k (H18.oldReads (k := 15) rfl hr) rfl rfl rfl Try.underlying24 sz35 (by omega)) ?_
    rcases hsn : ls.getD k S0 with ⟨o, m⟩
    cases o
    ·
     refine w_v (v := .agg #[.bool false, .int .i64 (m.kind), .int .i64 (m.i1), .int .i64 (m.i2), .int .i64 (m.i3), .int .i64 (m.i4), .int .i64 (m.i5), .string (m.root), .string (m.data)]) (x_loadRA (vs := snL ⟨false, m⟩) k (H18.oldReads (k := 15) rfl hr) (by omega) rfl rfl Try.underlying35 rfl sz35 (by rfl) (by rw [← hsn]; exact snV_at (by omega))) ?_
     refine l_of (s_alloc H18 (wt0 rfl) rfl rfl rfl ze35 ?_)
     intro g20 wq21 H22
     refine l_of (w_st #[.bool false, .int .i64 (m.kind), .int .i64 (m.i1), .int .i64 (m.i2), .int .i64 (m.i3), .int .i64 (m.i4), .int .i64 (m.i5), .string (m.root), .string (m.data)] H22 0 ?_)
     intro wq23 H24
     refine w_e ?_
     refine g_seq ?_
     refine g_seq ?_
     refine g_any [] (fun wx => S wx [Ob g20 (.cells #[.bool false, .int .i64 (m.kind), .int .i64 (m.i1), .int .i64 (m.i2), .int .i64 (m.i3), .int .i64 (m.i4), .int .i64 (m.i5), .string (m.root), .string (m.data)] 35 (0, 0))]) [] (by kernel_rfl) H24 (fun wq25 H26 => ?_)
     have cm1 := H26.mask [true, false, false, false, false, false, false, false, false, false, false, false, false, false, false, false, false]
     refine w_t 0 rfl cm1 (fun _ _ => xm) ?_
     refine w_t 1 rfl cm1 (fun _ _ => xf 0) ?_
     refine w_t 2 rfl cm1 (fun _ H => xl H 0) ?_
     refine w_t 3 rfl cm1 (fun _ _ => xf 1) ?_
     refine w_t (v := .agg m.cells) 4 rfl cm1 (fun _ H => x_loadA H 0 rfl rfl Try.underlying33 rfl sz33 rfl rfl rfl) ?_
     refine w_t 6 rfl cm1 (fun _ _ => xm) ?_
     refine w_t 7 rfl cm1 (fun _ _ => xf 0) ?_
     refine w_t 8 rfl cm1 (fun _ H => xl H 0) ?_
     refine w_t (v := .bool true) 9 rfl cm1 (fun _ _ => x_not (b := false) rfl rfl) ?_
     refine w_t 10 rfl cm1 (fun _ _ => xf 1) ?_
     refine w_t (v := .agg m.cells) 11 rfl cm1 (fun _ H => x_loadA H 0 rfl rfl Try.underlying33 rfl sz33 rfl rfl rfl) ?_
     refine a_one (i := 5) (by kernel_rfl) rfl ?_
     refine s_call (wt0 rfl) (x_call' rfl rfl cl8) (stepF_o sg9 (Co.mk n p l q ft) false A0 A1 a0 a1 m hn (hw0.wok (by omega)) (hw1.wok (by omega)) _ (H26.takes [1, 5, 6, 7, 2, 3, 4] (by decide))) ?_
     rintro _ wq29 ⟨A27, A28, rfl, H30⟩
     replace H30 : S wq29 [sgI sg9 (Co.mk n p l q ft) true A28 A27 (mayQ (Co.mk n p l q ft) a0 a1 m) (mayO (Co.mk n p l q ft) a0 a1 m), alI A27 (mayO (Co.mk n p l q ft) a0 a1 m), waI A27 (mayO (Co.mk n p l q ft) a0 a1 m), goI A27 (mayO (Co.mk n p l q ft) a0 a1 m), alI A28 (mayQ (Co.mk n p l q ft) a0 a1 m), waI A28 (mayQ (Co.mk n p l q ft) a0 a1 m), goI A28 (mayQ (Co.mk n p l q ft) a0 a1 m), Ob g20 (.cells #[.bool false, .int .i64 (m.kind), .int .i64 (m.i1), .int .i64 (m.i2), .int .i64 (m.i3), .int .i64 (m.i4), .int .i64 (m.i5), .string (m.root), .string (m.data)] 35 (0, 0)), sgI sg14 (Co.mk n p l q ft) true C1 C0 a0 a1, alI C1 a0, waI C1 a0, goI C1 a0, alI C0 a1, waI C0 a1, goI C0 a1, Ob g1 (.cells #[.int .i64 n, .int .i64 p, .int .i64 l, .int .i64 q, .bool ft] 23 (0, 0)), Old w no] := by have h := H26.absorbI [1, 5, 6, 7, 2, 3, 4] H30; exact h
     refine b_ret rfl rfl ?_
     refine a_k (H30.mask [false, false, false, false, false, false, false, true, false, false, false, false, false, false, false, false, false]) ?_
     refine a_one (i := 12) (by kernel_rfl) rfl ?_
     have hw34 := hw0.mayO (a := a0) (b := a1) (m := m) hn
     have hw33 := hw1.mayQ (a := a0) (b := a1) (m := m) hn
     refine s_call (wt0 rfl) (x_call' rfl rfl cl8) (stepF_o sg14 (Co.mk n p l q ft) true C1 C0 a0 a1 m hn (hw0.wok (by omega)) (hw1.wok (by omega)) _ (H30.takes [8, 9, 10, 11, 12, 13, 14] (by decide))) ?_
     rintro _ wq35 ⟨A32, A31, rfl, H36⟩
     replace H36 : S wq35 [sgI sg14 (Co.mk n p l q ft) true A32 A31 (mayO (Co.mk n p l q ft) a0 a1 m) (mayQ (Co.mk n p l q ft) a0 a1 m), alI A32 (mayO (Co.mk n p l q ft) a0 a1 m), waI A32 (mayO (Co.mk n p l q ft) a0 a1 m), goI A32 (mayO (Co.mk n p l q ft) a0 a1 m), alI A31 (mayQ (Co.mk n p l q ft) a0 a1 m), waI A31 (mayQ (Co.mk n p l q ft) a0 a1 m), goI A31 (mayQ (Co.mk n p l q ft) a0 a1 m), sgI sg9 (Co.mk n p l q ft) true A28 A27 (mayQ (Co.mk n p l q ft) a0 a1 m) (mayO (Co.mk n p l q ft) a0 a1 m), alI A27 (mayO (Co.mk n p l q ft) a0 a1 m), waI A27 (mayO (Co.mk n p l q ft) a0 a1 m), goI A27 (mayO (Co.mk n p l q ft) a0 a1 m), alI A28 (mayQ (Co.mk n p l q ft) a0 a1 m), waI A28 (mayQ (Co.mk n p l q ft) a0 a1 m), goI A28 (mayQ (Co.mk n p l q ft) a0 a1 m), Ob g20 (.cells #[.bool false, .int .i64 (m.kind), .int .i64 (m.i1), .int .i64 (m.i2), .int .i64 (m.i3), .int .i64 (m.i4), .int .i64 (m.i5), .string (m.root), .string (m.data)] 35 (0, 0)), Ob g1 (.cells #[.int .i64 n, .int .i64 p, .int .i64 l, .int .i64 q, .bool ft] 23 (0, 0)), Old w no] := by have h := H30.absorbI [8, 9, 10, 11, 12, 13, 14] H36; exact h
     refine b_ret rfl rfl ?_
     have cm2 := H36.mask [false, false, false, false, false, false, false, false, false, false, false, false, false, false, true, false, false]
     refine a_k cm2 ?_
     refine w_t (v := .bool (!decide (((mayE (Co.mk n p l q ft) a0 a1 m) : Int) = (mayE (Co.mk n p l q ft) a0 a1 m)))) 13 rfl cm2 (fun _ _ => x_bin rfl rfl rfl b_neq) ?_
     refine a_done (by kernel_rfl) ?_
     refine g_then ?_
     refine g_weak [(5, .pointer (some ⟨sg9, 0, none⟩)), (7, .pointer (some ⟨sg14, 0, none⟩)), (58, .slice pl ls.length cl), (59, .int .i64 ((ls.length : Int))), (60, .int .i64 ((k : Int))), (77, .bool (!decide (((mayE (Co.mk n p l q ft) a0 a1 m) : Int) = (mayE (Co.mk n p l q ft) a0 a1 m))))] ⟨rfl, rfl, rfl, rfl, rfl, rfl, trivial⟩ ?_
     refine g_cond_f rfl (nf rfl) ?_
     refine g_skip ?_
     refine g_then ?_
     refine w_s ?_
     refine l_of (s_buildSlice H36 (wt0 rfl) rfl rfl rfl (vs := [.bool true, .bool false]) rfl Try.underlying40 sz4 ze4 rfl rfl (cells := #[.bool true, .bool false]) (by kernel_rfl) ?_)
     intro g37 wq38 H39
     refine w_v (v := .int .i64 2) (x_lenl rfl rfl Try.underlying40) ?_
     refine w_m ?_
     refine w_e ?_
     refine g_block ?_
     refine g_rounds 3 ?_
     refine g_roundU ?_
     refine w_s ?_
     refine w_b ?_
     refine w_e ?_
     refine g_seq ?_
     refine g_cond_t rfl (by decide) ?_
     refine g_skip ?_
     refine g_then ?_
     refine g_seq ?_
     refine g_block ?_
     refine w_s ?_
     refine w_v (v := .pointer (some ⟨g37, 0, none⟩)) (x_indexAddr 0 rfl rfl rfl Try.underlying40 sz4 (by omega) (off' := 0) rfl) ?_
     refine w_1 H39 0 ?_
     refine w_a ?_
     refine w_e ?_
     refine w_s ?_
     refine w_r2 ?_
     refine l_of (s_callK H39 [8, 12, 13, 14, 9, 10, 11] [7, 8, 9, 10, 11, 12, 13, 14, 0, 4, 5, 6, 1, 2, 3, 15, 16, 17] (by decide) rfl (wt0 rfl) (x_call' rfl rfl cl10) (fun _ => field_o sg9 (Co.mk n p l q ft) true A28 A27 (mayQ (Co.mk n p l q ft) a0 a1 m) (mayO (Co.mk n p l q ft) a0 a1 m) _ (H39.takes [8, 12, 13, 14, 9, 10, 11] (by decide))) (by decide) rfl rfl ?_)
     intro wq40 H42
     refine w_r2 ?_
     refine w_v (v := .bool false) (x_not (b := true) rfl rfl) ?_
     refine l_of (s_callK H42 [1, 5, 6, 7, 2, 3, 4] [7, 0, 4, 5, 6, 1, 2, 3, 8, 9, 10, 11, 12, 13, 14, 15, 16, 17] (by decide) rfl (wt0 rfl) (x_call' rfl rfl cl10) (fun _ => field_o sg14 (Co.mk n p l q ft) false A31 A32 (mayQ (Co.mk n p l q ft) a0 a1 m) (mayO (Co.mk n p l q ft) a0 a1 m) _ (H42.takes [1, 5, 6, 7, 2, 3, 4] (by decide))) (by decide) rfl rfl ?_)
     intro wq43 H45
     refine w_b (v := .bool (!decide ((mayQ (Co.mk n p l q ft) a0 a1 m).fd = (mayQ (Co.mk n p l q ft) a0 a1 m).fd))) (hb := b_nes) ?_
     refine w_m ?_
     refine w_g (nf rfl) xm ?_
     refine w_g (nf rfl) xm ?_
     refine l_of (s_callK H45 [8, 12, 13, 14, 9, 10, 11] [7, 8, 9, 10, 11, 12, 13, 14, 0, 4, 5, 6, 1, 2, 3, 15, 16, 17] (by decide) rfl (wt1 rfl rfl rfl rfl (nf rfl)) (x_call' rfl rfl cl11) (fun _ => choked_o sg9 (Co.mk n p l q ft) true A28 A27 (mayQ (Co.mk n p l q ft) a0 a1 m) (mayO (Co.mk n p l q ft) a0 a1 m) _ (H45.takes [8, 12, 13, 14, 9, 10, 11] (by decide))) (by decide) rfl rfl ?_)
     intro wq46 H48
     refine w_g (nf rfl) xm ?_
     refine w_g (nf rfl) xm ?_
     refine w_g (v := .bool false) (nf rfl) (x_not (b := true) rfl rfl) ?_
     refine l_of (s_callK H48 [1, 5, 6, 7, 2, 3, 4] [7, 0, 4, 5, 6, 1, 2, 3, 8, 9, 10, 11, 12, 13, 14, 15, 16, 17] (by decide) rfl (wt1 rfl rfl rfl rfl (nf rfl)) (x_call' rfl rfl cl11) (fun _ => choked_o sg14 (Co.mk n p l q ft) false A31 A32 (mayQ (Co.mk n p l q ft) a0 a1 m) (mayO (Co.mk n p l q ft) a0 a1 m) _ (H48.takes [1, 5, 6, 7, 2, 3, 4] (by decide))) (by decide) rfl rfl ?_)
     intro wq49 H51
     refine w_g (v := .bool (!(((mayQ (Co.mk n p l q ft) a0 a1 m).ck) == ((mayQ (Co.mk n p l q ft) a0 a1 m).ck)))) (nf rfl) (x_bin rfl rfl rfl (b_neN Try.underlying4 rfl)) ?_
     refine w_v (v := .bool (!(((mayQ (Co.mk n p l q ft) a0 a1 m).ck) == ((mayQ (Co.mk n p l q ft) a0 a1 m).ck)))) (x_pick_f rfl rfl (nf rfl) rfl) ?_
     refine w_m ?_
     refine w_g (neg_of (beq_self_eq_true ((mayQ (Co.mk n p l q ft) a0 a1 m).ck))) xm ?_
     refine w_g (neg_of (beq_self_eq_true ((mayQ (Co.mk n p l q ft) a0 a1 m).ck))) xm ?_
     refine l_of (s_callK H51 [8, 12, 13, 14, 9, 10, 11] [7, 8, 9, 10, 11, 12, 13, 14, 0, 4, 5, 6, 1, 2, 3, 15, 16, 17] (by decide) rfl (wt1 rfl rfl rfl rfl (neg_of (beq_self_eq_true ((mayQ (Co.mk n p l q ft) a0 a1 m).ck)))) (x_call' rfl rfl cl12) (fun _ => wants_o sg9 (Co.mk n p l q ft) true A28 A27 (mayQ (Co.mk n p l q ft) a0 a1 m) (mayO (Co.mk n p l q ft) a0 a1 m) _ (H51.takes [8, 12, 13, 14, 9, 10, 11] (by decide))) (by decide) rfl rfl ?_)
     intro wq52 H54
     refine w_g (neg_of (beq_self_eq_true ((mayQ (Co.mk n p l q ft) a0 a1 m).ck))) xm ?_
     refine w_g (neg_of (beq_self_eq_true ((mayQ (Co.mk n p l q ft) a0 a1 m).ck))) xm ?_
     refine w_g (v := .bool false) (neg_of (beq_self_eq_true ((mayQ (Co.mk n p l q ft) a0 a1 m).ck))) (x_not (b := true) rfl rfl) ?_
     refine l_of (s_callK H54 [1, 5, 6, 7, 2, 3, 4] [7, 0, 4, 5, 6, 1, 2, 3, 8, 9, 10, 11, 12, 13, 14, 15, 16, 17] (by decide) rfl (wt1 rfl rfl rfl rfl (neg_of (beq_self_eq_true ((mayQ (Co.mk n p l q ft) a0 a1 m).ck)))) (x_call' rfl rfl cl12) (fun _ => wants_o sg14 (Co.mk n p l q ft) false A31 A32 (mayQ (Co.mk n p l q ft) a0 a1 m) (mayO (Co.mk n p l q ft) a0 a1 m) _ (H54.takes [1, 5, 6, 7, 2, 3, 4] (by decide))) (by decide) rfl rfl ?_)
     intro wq55 H57
     refine w_g (v := .bool (!(((mayQ (Co.mk n p l q ft) a0 a1 m).wt) == ((mayQ (Co.mk n p l q ft) a0 a1 m).wt)))) (neg_of (beq_self_eq_true ((mayQ (Co.mk n p l q ft) a0 a1 m).ck))) (x_bin rfl rfl rfl (b_neN Try.underlying4 rfl)) ?_
     refine w_v (v := .bool (!(((mayQ (Co.mk n p l q ft) a0 a1 m).wt) == ((mayQ (Co.mk n p l q ft) a0 a1 m).wt)))) (x_pick_f rfl rfl (neg_of (beq_self_eq_true ((mayQ (Co.mk n p l q ft) a0 a1 m).ck))) rfl) ?_
     refine w_m ?_
     refine w_g (neg_of (beq_self_eq_true ((mayQ (Co.mk n p l q ft) a0 a1 m).wt))) xm ?_
     refine w_g (neg_of (beq_self_eq_true ((mayQ (Co.mk n p l q ft) a0 a1 m).wt))) xm ?_
     refine l_of (s_callK H57 [8, 12, 13, 14, 9, 10, 11] [7, 8, 9, 10, 11, 12, 13, 14, 0, 4, 5, 6, 1, 2, 3, 15, 16, 17] (by decide) rfl (wt1 rfl rfl rfl rfl (neg_of (beq_self_eq_true ((mayQ (Co.mk n p l q ft) a0 a1 m).wt)))) (x_call' rfl rfl cl13) (fun _ => begun_o sg9 (Co.mk n p l q ft) true A28 A27 (mayQ (Co.mk n p l q ft) a0 a1 m) (mayO (Co.mk n p l q ft) a0 a1 m) _ (H57.takes [8, 12, 13, 14, 9, 10, 11] (by decide))) (by decide) rfl rfl ?_)
     intro wq58 H60
     refine w_g (neg_of (beq_self_eq_true ((mayQ (Co.mk n p l q ft) a0 a1 m).wt))) xm ?_
     refine w_g (neg_of (beq_self_eq_true ((mayQ (Co.mk n p l q ft) a0 a1 m).wt))) xm ?_
     refine w_g (v := .bool false) (neg_of (beq_self_eq_true ((mayQ (Co.mk n p l q ft) a0 a1 m).wt))) (x_not (b := true) rfl rfl) ?_
     refine l_of (s_callK H60 [1, 5, 6, 7, 2, 3, 4] [7, 0, 4, 5, 6, 1, 2, 3, 8, 9, 10, 11, 12, 13, 14, 15, 16, 17] (by decide) rfl (wt1 rfl rfl rfl rfl (neg_of (beq_self_eq_true ((mayQ (Co.mk n p l q ft) a0 a1 m).wt)))) (x_call' rfl rfl cl13) (fun _ => begun_o sg14 (Co.mk n p l q ft) false A31 A32 (mayQ (Co.mk n p l q ft) a0 a1 m) (mayO (Co.mk n p l q ft) a0 a1 m) _ (H60.takes [1, 5, 6, 7, 2, 3, 4] (by decide))) (by decide) rfl rfl ?_)
     intro wq61 H63
     refine w_g (v := .bool (!(((mayQ (Co.mk n p l q ft) a0 a1 m).bg) == ((mayQ (Co.mk n p l q ft) a0 a1 m).bg)))) (neg_of (beq_self_eq_true ((mayQ (Co.mk n p l q ft) a0 a1 m).wt))) (x_bin rfl rfl rfl (b_neN Try.underlying4 rfl)) ?_
     refine w_v (v := .bool (!(((mayQ (Co.mk n p l q ft) a0 a1 m).bg) == ((mayQ (Co.mk n p l q ft) a0 a1 m).bg)))) (x_pick_f rfl rfl (neg_of (beq_self_eq_true ((mayQ (Co.mk n p l q ft) a0 a1 m).wt))) rfl) ?_
     refine w_m ?_
     refine w_g (neg_of (beq_self_eq_true ((mayQ (Co.mk n p l q ft) a0 a1 m).bg))) xm ?_
     refine w_g (neg_of (beq_self_eq_true ((mayQ (Co.mk n p l q ft) a0 a1 m).bg))) xm ?_
     refine l_of (s_call (wt1 rfl rfl rfl rfl (neg_of (beq_self_eq_true ((mayQ (Co.mk n p l q ft) a0 a1 m).bg)))) (x_call' rfl rfl cl9) (waiting_o sg9 (Co.mk n p l q ft) true A28 A27 (mayQ (Co.mk n p l q ft) a0 a1 m) (mayO (Co.mk n p l q ft) a0 a1 m) (hw33.wok (by omega)).wa _ (H63.takes [8, 12, 13, 14, 9, 10, 11] (by decide))) ?_)
     rintro _ wq66 ⟨p64, c65, rfl, H67⟩
     replace H67 : S wq66 [Rw 49 3 p64 (mayQ (Co.mk n p l q ft) a0 a1 m).wa.length c65 (chV (mayQ (Co.mk n p l q ft) a0 a1 m).wa), sgI sg9 (Co.mk n p l q ft) true A28 A27 (mayQ (Co.mk n p l q ft) a0 a1 m) (mayO (Co.mk n p l q ft) a0 a1 m), alI A28 (mayQ (Co.mk n p l q ft) a0 a1 m), waI A28 (mayQ (Co.mk n p l q ft) a0 a1 m), goI A28 (mayQ (Co.mk n p l q ft) a0 a1 m), alI A27 (mayO (Co.mk n p l q ft) a0 a1 m), waI A27 (mayO (Co.mk n p l q ft) a0 a1 m), goI A27 (mayO (Co.mk n p l q ft) a0 a1 m), Ob g37 (.cells #[.bool true, .bool false] 4 (0, 0)), sgI sg14 (Co.mk n p l q ft) true A32 A31 (mayO (Co.mk n p l q ft) a0 a1 m) (mayQ (Co.mk n p l q ft) a0 a1 m), alI A32 (mayO (Co.mk n p l q ft) a0 a1 m), waI A32 (mayO (Co.mk n p l q ft) a0 a1 m), goI A32 (mayO (Co.mk n p l q ft) a0 a1 m), alI A31 (mayQ (Co.mk n p l q ft) a0 a1 m), waI A31 (mayQ (Co.mk n p l q ft) a0 a1 m), goI A31 (mayQ (Co.mk n p l q ft) a0 a1 m), Ob g20 (.cells #[.bool false, .int .i64 (m.kind), .int .i64 (m.i1), .int .i64 (m.i2), .int .i64 (m.i3), .int .i64 (m.i4), .int .i64 (m.i5), .string (m.root), .string (m.data)] 35 (0, 0)), Ob g1 (.cells #[.int .i64 n, .int .i64 p, .int .i64 l, .int .i64 q, .bool ft] 23 (0, 0)), Old w no] := by have h := H63.absorbI [8, 12, 13, 14, 9, 10, 11] H67; exact h
     refine b_ret rfl rfl ?_
     refine w_g (neg_of (beq_self_eq_true ((mayQ (Co.mk n p l q ft) a0 a1 m).bg))) xm ?_
     refine w_g (neg_of (beq_self_eq_true ((mayQ (Co.mk n p l q ft) a0 a1 m).bg))) xm ?_
     refine w_g (v := .bool false) (neg_of (beq_self_eq_true ((mayQ (Co.mk n p l q ft) a0 a1 m).bg))) (x_not (b := true) rfl rfl) ?_
     refine l_of (s_call (wt1 rfl rfl rfl rfl (neg_of (beq_self_eq_true ((mayQ (Co.mk n p l q ft) a0 a1 m).bg)))) (x_call' rfl rfl cl9) (waiting_o sg14 (Co.mk n p l q ft) false A31 A32 (mayQ (Co.mk n p l q ft) a0 a1 m) (mayO (Co.mk n p l q ft) a0 a1 m) (hw33.wok (by omega)).wa _ (H67.takes [9, 13, 14, 15, 10, 11, 12] (by decide))) ?_)
     rintro _ wq70 ⟨p68, c69, rfl, H71⟩
     replace H71 : S wq70 [Rw 49 3 p68 (mayQ (Co.mk n p l q ft) a0 a1 m).wa.length c69 (chV (mayQ (Co.mk n p l q ft) a0 a1 m).wa), sgI sg14 (Co.mk n p l q ft) true A32 A31 (mayO (Co.mk n p l q ft) a0 a1 m) (mayQ (Co.mk n p l q ft) a0 a1 m), alI A31 (mayQ (Co.mk n p l q ft) a0 a1 m), waI A31 (mayQ (Co.mk n p l q ft) a0 a1 m), goI A31 (mayQ (Co.mk n p l q ft) a0 a1 m), alI A32 (mayO (Co.mk n p l q ft) a0 a1 m), waI A32 (mayO (Co.mk n p l q ft) a0 a1 m), goI A32 (mayO (Co.mk n p l q ft) a0 a1 m), Rw 49 3 p64 (mayQ (Co.mk n p l q ft) a0 a1 m).wa.length c65 (chV (mayQ (Co.mk n p l q ft) a0 a1 m).wa), sgI sg9 (Co.mk n p l q ft) true A28 A27 (mayQ (Co.mk n p l q ft) a0 a1 m) (mayO (Co.mk n p l q ft) a0 a1 m), alI A28 (mayQ (Co.mk n p l q ft) a0 a1 m), waI A28 (mayQ (Co.mk n p l q ft) a0 a1 m), goI A28 (mayQ (Co.mk n p l q ft) a0 a1 m), alI A27 (mayO (Co.mk n p l q ft) a0 a1 m), waI A27 (mayO (Co.mk n p l q ft) a0 a1 m), goI A27 (mayO (Co.mk n p l q ft) a0 a1 m), Ob g37 (.cells #[.bool true, .bool false] 4 (0, 0)), Ob g20 (.cells #[.bool false, .int .i64 (m.kind), .int .i64 (m.i1), .int .i64 (m.i2), .int .i64 (m.i3), .int .i64 (m.i4), .int .i64 (m.i5), .string (m.root), .string (m.data)] 35 (0, 0)), Ob g1 (.cells #[.int .i64 n, .int .i64 p, .int .i64 l, .int .i64 q, .bool ft] 23 (0, 0)), Old w no] := by have h := H67.absorbI [9, 13, 14, 15, 10, 11, 12] H71; exact h
     refine b_ret rfl rfl ?_
     refine l_of (s_call0 H71 (wt1 rfl rfl rfl rfl (neg_of (beq_self_eq_true ((mayQ (Co.mk n p l q ft) a0 a1 m).bg)))) (x_call' rfl rfl cl14) (choices_s (mayQ (Co.mk n p l q ft) a0 a1 m).wa p64 p68 c65 c69 (hw33.wok (by omega)).wa _ (H71.rwReads (k := 8) rfl) (H71.rwReads (k := 0) rfl)) rfl rfl ?_)
     intro wq72 H73
     refine w_g (v := .bool false) (neg_of (beq_self_eq_true ((mayQ (Co.mk n p l q ft) a0 a1 m).bg))) (x_not (b := true) rfl rfl) ?_
     refine w_v (v := .bool false) (x_pick_f rfl rfl (neg_of (beq_self_eq_true ((mayQ (Co.mk n p l q ft) a0 a1 m).bg))) rfl) ?_
     refine w_m ?_
     refine w_g rfl xm ?_
     refine w_g rfl xm ?_
     refine l_of (s_call (wt1 rfl rfl rfl rfl rfl) (x_call' rfl rfl cl15) (owed_o sg9 (Co.mk n p l q ft) true A28 A27 (mayQ (Co.mk n p l q ft) a0 a1 m) (mayO (Co.mk n p l q ft) a0 a1 m) (hw33.wok (by omega)).al (hw33.wok (by omega)).wa hw33.ok _ (H73.takes [9, 10, 11, 12, 13, 14, 15] (by decide))) ?_)
     rintro _ wq76 ⟨p74, c75, rfl, H77⟩
     replace H77 : S wq76 [Rw 49 3 p74 (owedS (mayQ (Co.mk n p l q ft) a0 a1 m)).length c75 (chV (owedS (mayQ (Co.mk n p l q ft) a0 a1 m))), sgI sg9 (Co.mk n p l q ft) true A28 A27 (mayQ (Co.mk n p l q ft) a0 a1 m) (mayO (Co.mk n p l q ft) a0 a1 m), alI A28 (mayQ (Co.mk n p l q ft) a0 a1 m), waI A28 (mayQ (Co.mk n p l q ft) a0 a1 m), goI A28 (mayQ (Co.mk n p l q ft) a0 a1 m), alI A27 (mayO (Co.mk n p l q ft) a0 a1 m), waI A27 (mayO (Co.mk n p l q ft) a0 a1 m), goI A27 (mayO (Co.mk n p l q ft) a0 a1 m), Rw 49 3 p68 (mayQ (Co.mk n p l q ft) a0 a1 m).wa.length c69 (chV (mayQ (Co.mk n p l q ft) a0 a1 m).wa), sgI sg14 (Co.mk n p l q ft) true A32 A31 (mayO (Co.mk n p l q ft) a0 a1 m) (mayQ (Co.mk n p l q ft) a0 a1 m), alI A31 (mayQ (Co.mk n p l q ft) a0 a1 m), waI A31 (mayQ (Co.mk n p l q ft) a0 a1 m), goI A31 (mayQ (Co.mk n p l q ft) a0 a1 m), alI A32 (mayO (Co.mk n p l q ft) a0 a1 m), waI A32 (mayO (Co.mk n p l q ft) a0 a1 m), goI A32 (mayO (Co.mk n p l q ft) a0 a1 m), Rw 49 3 p64 (mayQ (Co.mk n p l q ft) a0 a1 m).wa.length c65 (chV (mayQ (Co.mk n p l q ft) a0 a1 m).wa), Ob g37 (.cells #[.bool true, .bool false] 4 (0, 0)), Ob g20 (.cells #[.bool false, .int .i64 (m.kind), .int .i64 (m.i1), .int .i64 (m.i2), .int .i64 (m.i3), .int .i64 (m.i4), .int .i64 (m.i5), .string (m.root), .string (m.data)] 35 (0, 0)), Ob g1 (.cells #[.int .i64 n, .int .i64 p, .int .i64 l, .int .i64 q, .bool ft] 23 (0, 0)), Old w no] := by have h := H73.absorbI [9, 10, 11, 12, 13, 14, 15] H77; exact h
     refine b_ret rfl rfl ?_
     refine w_g rfl xm ?_
     refine w_g rfl xm ?_
     refine w_g (v := .bool false) rfl (x_not (b := true) rfl rfl) ?_
     refine l_of (s_call (wt1 rfl rfl rfl rfl rfl) (x_call' rfl rfl cl15) (owed_o sg14 (Co.mk n p l q ft) false A31 A32 (mayQ (Co.mk n p l q ft) a0 a1 m) (mayO (Co.mk n p l q ft) a0 a1 m) (hw33.wok (by omega)).al (hw33.wok (by omega)).wa hw33.ok _ (H77.takes [9, 10, 11, 12, 13, 14, 15] (by decide))) ?_)
     rintro _ wq80 ⟨p78, c79, rfl, H81⟩
     replace H81 : S wq80 [Rw 49 3 p78 (owedS (mayQ (Co.mk n p l q ft) a0 a1 m)).length c79 (chV (owedS (mayQ (Co.mk n p l q ft) a0 a1 m))), sgI sg14 (Co.mk n p l q ft) true A32 A31 (mayO (Co.mk n p l q ft) a0 a1 m) (mayQ (Co.mk n p l q ft) a0 a1 m), alI A31 (mayQ (Co.mk n p l q ft) a0 a1 m), waI A31 (mayQ (Co.mk n p l q ft) a0 a1 m), goI A31 (mayQ (Co.mk n p l q ft) a0 a1 m), alI A32 (mayO (Co.mk n p l q ft) a0 a1 m), waI A32 (mayO (Co.mk n p l q ft) a0 a1 m), goI A32 (mayO (Co.mk n p l q ft) a0 a1 m), Rw 49 3 p74 (owedS (mayQ (Co.mk n p l q ft) a0 a1 m)).length c75 (chV (owedS (mayQ (Co.mk n p l q ft) a0 a1 m))), sgI sg9 (Co.mk n p l q ft) true A28 A27 (mayQ (Co.mk n p l q ft) a0 a1 m) (mayO (Co.mk n p l q ft) a0 a1 m), alI A28 (mayQ (Co.mk n p l q ft) a0 a1 m), waI A28 (mayQ (Co.mk n p l q ft) a0 a1 m), goI A28 (mayQ (Co.mk n p l q ft) a0 a1 m), alI A27 (mayO (Co.mk n p l q ft) a0 a1 m), waI A27 (mayO (Co.mk n p l q ft) a0 a1 m), goI A27 (mayO (Co.mk n p l q ft) a0 a1 m), Rw 49 3 p68 (mayQ (Co.mk n p l q ft) a0 a1 m).wa.length c69 (chV (mayQ (Co.mk n p l q ft) a0 a1 m).wa), Rw 49 3 p64 (mayQ (Co.mk n p l q ft) a0 a1 m).wa.length c65 (chV (mayQ (Co.mk n p l q ft) a0 a1 m).wa), Ob g37 (.cells #[.bool true, .bool false] 4 (0, 0)), Ob g20 (.cells #[.bool false, .int .i64 (m.kind), .int .i64 (m.i1), .int .i64 (m.i2), .int .i64 (m.i3), .int .i64 (m.i4), .int .i64 (m.i5), .string (m.root), .string (m.data)] 35 (0, 0)), Ob g1 (.cells #[.int .i64 n, .int .i64 p, .int .i64 l, .int .i64 q, .bool ft] 23 (0, 0)), Old w no] := by have h := H77.absorbI [9, 10, 11, 12, 13, 14, 15] H81; exact h
     refine b_ret rfl rfl ?_
     refine l_of (s_call0 H81 (wt1 rfl rfl rfl rfl rfl) (x_call' rfl rfl cl14) (choices_s (owedS (mayQ (Co.mk n p l q ft) a0 a1 m)) p74 p78 c75 c79 (owed_le (hw33.wok (by omega)).wa) _ (H81.rwReads (k := 8) rfl) (H81.rwReads (k := 0) rfl)) rfl rfl ?_)
     intro wq82 H83
     refine w_g (v := .bool false) rfl (x_not (b := true) rfl rfl) ?_
     refine w_v (v := .bool false) (x_pick_f rfl rfl rfl rfl) ?_
     refine w_m ?_
     refine w_g rfl xm ?_
     refine w_g rfl xm ?_
     refine l_of (s_call (wt1 rfl rfl rfl rfl rfl) (x_call' rfl rfl cl17) (allowed_o sg9 (Co.mk n p l q ft) true A28 A27 (mayQ (Co.mk n p l q ft) a0 a1 m) (mayO (Co.mk n p l q ft) a0 a1 m) (hw33.wok (by omega)).al _ (H83.takes [9, 10, 11, 12, 13, 14, 15] (by decide))) ?_)
     rintro _ wq86 ⟨p84, c85, rfl, H87⟩
     replace H87 : S wq86 [Rw 3 1 p84 (mayQ (Co.mk n p l q ft) a0 a1 m).al.length c85 (zV (mayQ (Co.mk n p l q ft) a0 a1 m).al), sgI sg9 (Co.mk n p l q ft) true A28 A27 (mayQ (Co.mk n p l q ft) a0 a1 m) (mayO (Co.mk n p l q ft) a0 a1 m), alI A28 (mayQ (Co.mk n p l q ft) a0 a1 m), waI A28 (mayQ (Co.mk n p l q ft) a0 a1 m), goI A28 (mayQ (Co.mk n p l q ft) a0 a1 m), alI A27 (mayO (Co.mk n p l q ft) a0 a1 m), waI A27 (mayO (Co.mk n p l q ft) a0 a1 m), goI A27 (mayO (Co.mk n p l q ft) a0 a1 m), Rw 49 3 p78 (owedS (mayQ (Co.mk n p l q ft) a0 a1 m)).length c79 (chV (owedS (mayQ (Co.mk n p l q ft) a0 a1 m))), sgI sg14 (Co.mk n p l q ft) true A32 A31 (mayO (Co.mk n p l q ft) a0 a1 m) (mayQ (Co.mk n p l q ft) a0 a1 m), alI A31 (mayQ (Co.mk n p l q ft) a0 a1 m), waI A31 (mayQ (Co.mk n p l q ft) a0 a1 m), goI A31 (mayQ (Co.mk n p l q ft) a0 a1 m), alI A32 (mayO (Co.mk n p l q ft) a0 a1 m), waI A32 (mayO (Co.mk n p l q ft) a0 a1 m), goI A32 (mayO (Co.mk n p l q ft) a0 a1 m), Rw 49 3 p74 (owedS (mayQ (Co.mk n p l q ft) a0 a1 m)).length c75 (chV (owedS (mayQ (Co.mk n p l q ft) a0 a1 m))), Rw 49 3 p68 (mayQ (Co.mk n p l q ft) a0 a1 m).wa.length c69 (chV (mayQ (Co.mk n p l q ft) a0 a1 m).wa), Rw 49 3 p64 (mayQ (Co.mk n p l q ft) a0 a1 m).wa.length c65 (chV (mayQ (Co.mk n p l q ft) a0 a1 m).wa), Ob g37 (.cells #[.bool true, .bool false] 4 (0, 0)), Ob g20 (.cells #[.bool false, .int .i64 (m.kind), .int .i64 (m.i1), .int .i64 (m.i2), .int .i64 (m.i3), .int .i64 (m.i4), .int .i64 (m.i5), .string (m.root), .string (m.data)] 35 (0, 0)), Ob g1 (.cells #[.int .i64 n, .int .i64 p, .int .i64 l, .int .i64 q, .bool ft] 23 (0, 0)), Old w no] := by have h := H83.absorbI [9, 10, 11, 12, 13, 14, 15] H87; exact h
     refine b_ret rfl rfl ?_
     refine w_g rfl xm ?_
     refine w_g rfl xm ?_
     refine w_g (v := .bool false) rfl (x_not (b := true) rfl rfl) ?_
     refine l_of (s_call (wt1 rfl rfl rfl rfl rfl) (x_call' rfl rfl cl17) (allowed_o sg14 (Co.mk n p l q ft) false A31 A32 (mayQ (Co.mk n p l q ft) a0 a1 m) (mayO (Co.mk n p l q ft) a0 a1 m) (hw33.wok (by omega)).al _ (H87.takes [9, 10, 11, 12, 13, 14, 15] (by decide))) ?_)
     rintro _ wq90 ⟨p88, c89, rfl, H91⟩
     replace H91 : S wq90 [Rw 3 1 p88 (mayQ (Co.mk n p l q ft) a0 a1 m).al.length c89 (zV (mayQ (Co.mk n p l q ft) a0 a1 m).al), sgI sg14 (Co.mk n p l q ft) true A32 A31 (mayO (Co.mk n p l q ft) a0 a1 m) (mayQ (Co.mk n p l q ft) a0 a1 m), alI A31 (mayQ (Co.mk n p l q ft) a0 a1 m), waI A31 (mayQ (Co.mk n p l q ft) a0 a1 m), goI A31 (mayQ (Co.mk n p l q ft) a0 a1 m), alI A32 (mayO (Co.mk n p l q ft) a0 a1 m), waI A32 (mayO (Co.mk n p l q ft) a0 a1 m), goI A32 (mayO (Co.mk n p l q ft) a0 a1 m), Rw 3 1 p84 (mayQ (Co.mk n p l q ft) a0 a1 m).al.length c85 (zV (mayQ (Co.mk n p l q ft) a0 a1 m).al), sgI sg9 (Co.mk n p l q ft) true A28 A27 (mayQ (Co.mk n p l q ft) a0 a1 m) (mayO (Co.mk n p l q ft) a0 a1 m), alI A28 (mayQ (Co.mk n p l q ft) a0 a1 m), waI A28 (mayQ (Co.mk n p l q ft) a0 a1 m), goI A28 (mayQ (Co.mk n p l q ft) a0 a1 m), alI A27 (mayO (Co.mk n p l q ft) a0 a1 m), waI A27 (mayO (Co.mk n p l q ft) a0 a1 m), goI A27 (mayO (Co.mk n p l q ft) a0 a1 m), Rw 49 3 p78 (owedS (mayQ (Co.mk n p l q ft) a0 a1 m)).length c79 (chV (owedS (mayQ (Co.mk n p l q ft) a0 a1 m))), Rw 49 3 p74 (owedS (mayQ (Co.mk n p l q ft) a0 a1 m)).length c75 (chV (owedS (mayQ (Co.mk n p l q ft) a0 a1 m))), Rw 49 3 p68 (mayQ (Co.mk n p l q ft) a0 a1 m).wa.length c69 (chV (mayQ (Co.mk n p l q ft) a0 a1 m).wa), Rw 49 3 p64 (mayQ (Co.mk n p l q ft) a0 a1 m).wa.length c65 (chV (mayQ (Co.mk n p l q ft) a0 a1 m).wa), Ob g37 (.cells #[.bool true, .bool false] 4 (0, 0)), Ob g20 (.cells #[.bool false, .int .i64 (m.kind), .int .i64 (m.i1), .int .i64 (m.i2), .int .i64 (m.i3), .int .i64 (m.i4), .int .i64 (m.i5), .string (m.root), .string (m.data)] 35 (0, 0)), Ob g1 (.cells #[.int .i64 n, .int .i64 p, .int .i64 l, .int .i64 q, .bool ft] 23 (0, 0)), Old w no] := by have h := H87.absorbI [9, 10, 11, 12, 13, 14, 15] H91; exact h
     refine b_ret rfl rfl ?_
     refine l_of (s_call0 H91 (wt1 rfl rfl rfl rfl rfl) (x_call' rfl rfl cl16) (ints_s (mayQ (Co.mk n p l q ft) a0 a1 m).al p84 p88 c85 c89 (hw33.wok (by omega)).al _ (H91.rwReads (k := 8) rfl) (H91.rwReads (k := 0) rfl)) rfl rfl ?_)
     intro wq92 H93
     refine w_g (v := .bool false) rfl (x_not (b := true) rfl rfl) ?_
     refine w_v (v := .bool false) (x_pick_f rfl rfl rfl rfl) ?_
     refine w_e ?_
     refine g_weak [(5, .pointer (some ⟨sg9, 0, none⟩)), (7, .pointer (some ⟨sg14, 0, none⟩)), (58, .slice pl ls.length cl), (59, .int .i64 ((ls.length : Int))), (60, .int .i64 ((k : Int))), (78, .slice (some ⟨g37, 0, none⟩) (2) (2)), (79, .int .i64 2), (80, .int .i64 0), (154, .bool false)] ⟨rfl, rfl, rfl, rfl, rfl, rfl, rfl, rfl, rfl, trivial⟩ ?_
     refine g_cond_f rfl rfl ?_
     refine g_skip ?_
     refine g_in ?_
     refine g_then ?_
     refine g_region ?_
     refine w_b (v := .int .i64 1) (hb := (b_add (r := 1) (by decide))) ?_
     refine w_m ?_
     refine w_e ?_
     refine g_roundU ?_
     refine w_s ?_
     refine w_b ?_
     refine w_e ?_
     refine g_seq ?_
     refine g_cond_t rfl (by decide) ?_
     refine g_skip ?_
     refine g_then ?_
     refine g_seq ?_
     refine g_block ?_
     refine w_s ?_
     refine w_v (v := .pointer (some ⟨g37, 1, none⟩)) (x_indexAddr 1 rfl rfl rfl Try.underlying40 sz4 (by omega) (off' := 1) rfl) ?_
     refine w_1 H93 20 ?_
     refine w_a ?_
     refine w_e ?_
     refine w_s ?_
     refine w_r2 ?_
     refine l_of (s_callK H93 [9, 13, 14, 15, 10, 11, 12] [7, 8, 9, 10, 11, 12, 13, 14, 15, 0, 4, 5, 6, 1, 2, 3, 16, 17, 18, 19, 20, 21, 22, 23] (by decide) rfl (wt0 rfl) (x_call' rfl rfl cl10) (fun _ => field_o sg9 (Co.mk n p l q ft) false A27 A28 (mayO (Co.mk n p l q ft) a0 a1 m) (mayQ (Co.mk n p l q ft) a0 a1 m) _ (H93.takes [9, 13, 14, 15, 10, 11, 12] (by decide))) (by decide) rfl rfl ?_)
     intro wq94 H96
     refine w_r2 ?_
     refine w_v (v := .bool true) (x_not (b := false) rfl rfl) ?_
     refine l_of (s_callK H96 [1, 5, 6, 7, 2, 3, 4] [7, 0, 4, 5, 6, 1, 2, 3, 8, 9, 10, 11, 12, 13, 14, 15, 16, 17, 18, 19, 20, 21, 22, 23] (by decide) rfl (wt0 rfl) (x_call' rfl rfl cl10) (fun _ => field_o sg14 (Co.mk n p l q ft) true A32 A31 (mayO (Co.mk n p l q ft) a0 a1 m) (mayQ (Co.mk n p l q ft) a0 a1 m) _ (H96.takes [1, 5, 6, 7, 2, 3, 4] (by decide))) (by decide) rfl rfl ?_)
     intro wq97 H99
     refine w_b (v := .bool (!decide ((mayO (Co.mk n p l q ft) a0 a1 m).fd = (mayO (Co.mk n p l q ft) a0 a1 m).fd))) (hb := b_nes) ?_
     refine w_m ?_
     refine w_g (nf rfl) xm ?_
     refine w_g (nf rfl) xm ?_
     refine l_of (s_callK H99 [9, 13, 14, 15, 10, 11, 12] [7, 8, 9, 10, 11, 12, 13, 14, 15, 0, 4, 5, 6, 1, 2, 3, 16, 17, 18, 19, 20, 21, 22, 23] (by decide) rfl (wt1 rfl rfl rfl rfl (nf rfl)) (x_call' rfl rfl cl11) (fun _ => choked_o sg9 (Co.mk n p l q ft) false A27 A28 (mayO (Co.mk n p l q ft) a0 a1 m) (mayQ (Co.mk n p l q ft) a0 a1 m) _ (H99.takes [9, 13, 14, 15, 10, 11, 12] (by decide))) (by decide) rfl rfl ?_)
     intro wq100 H102
     refine w_g (nf rfl) xm ?_
     refine w_g (nf rfl) xm ?_
     refine w_g (v := .bool true) (nf rfl) (x_not (b := false) rfl rfl) ?_
     refine l_of (s_callK H102 [1, 5, 6, 7, 2, 3, 4] [7, 0, 4, 5, 6, 1, 2, 3, 8, 9, 10, 11, 12, 13, 14, 15, 16, 17, 18, 19, 20, 21, 22, 23] (by decide) rfl (wt1 rfl rfl rfl rfl (nf rfl)) (x_call' rfl rfl cl11) (fun _ => choked_o sg14 (Co.mk n p l q ft) true A32 A31 (mayO (Co.mk n p l q ft) a0 a1 m) (mayQ (Co.mk n p l q ft) a0 a1 m) _ (H102.takes [1, 5, 6, 7, 2, 3, 4] (by decide))) (by decide) rfl rfl ?_)
     intro wq103 H105
     refine w_g (v := .bool (!(((mayO (Co.mk n p l q ft) a0 a1 m).ck) == ((mayO (Co.mk n p l q ft) a0 a1 m).ck)))) (nf rfl) (x_bin rfl rfl rfl (b_neN Try.underlying4 rfl)) ?_
     refine w_v (v := .bool (!(((mayO (Co.mk n p l q ft) a0 a1 m).ck) == ((mayO (Co.mk n p l q ft) a0 a1 m).ck)))) (x_pick_f rfl rfl (nf rfl) rfl) ?_
     refine w_m ?_
     refine w_g (neg_of (beq_self_eq_true ((mayO (Co.mk n p l q ft) a0 a1 m).ck))) xm ?_
     refine w_g (neg_of (beq_self_eq_true ((mayO (Co.mk n p l q ft) a0 a1 m).ck))) xm ?_
     refine l_of (s_callK H105 [9, 13, 14, 15, 10, 11, 12] [7, 8, 9, 10, 11, 12, 13, 14, 15, 0, 4, 5, 6, 1, 2, 3, 16, 17, 18, 19, 20, 21, 22, 23] (by decide) rfl (wt1 rfl rfl rfl rfl (neg_of (beq_self_eq_true ((mayO (Co.mk n p l q ft) a0 a1 m).ck)))) (x_call' rfl rfl cl12) (fun _ => wants_o sg9 (Co.mk n p l q ft) false A27 A28 (mayO (Co.mk n p l q ft) a0 a1 m) (mayQ (Co.mk n p l q ft) a0 a1 m) _ (H105.takes [9, 13, 14, 15, 10, 11, 12] (by decide))) (by decide) rfl rfl ?_)
     intro wq106 H108
     refine w_g (neg_of (beq_self_eq_true ((mayO (Co.mk n p l q ft) a0 a1 m).ck))) xm ?_
     refine w_g (neg_of (beq_self_eq_true ((mayO (Co.mk n p l q ft) a0 a1 m).ck))) xm ?_
     refine w_g (v := .bool true) (neg_of (beq_self_eq_true ((mayO (Co.mk n p l q ft) a0 a1 m).ck))) (x_not (b := false) rfl rfl) ?_
     refine l_of (s_callK H108 [1, 5, 6, 7, 2, 3, 4] [7, 0, 4, 5, 6, 1, 2, 3, 8, 9, 10, 11, 12, 13, 14, 15, 16, 17, 18, 19, 20, 21, 22, 23] (by decide) rfl (wt1 rfl rfl rfl rfl (neg_of (beq_self_eq_true ((mayO (Co.mk n p l q ft) a0 a1 m).ck)))) (x_call' rfl rfl cl12) (fun _ => wants_o sg14 (Co.mk n p l q ft) true A32 A31 (mayO (Co.mk n p l q ft) a0 a1 m) (mayQ (Co.mk n p l q ft) a0 a1 m) _ (H108.takes [1, 5, 6, 7, 2, 3, 4] (by decide))) (by decide) rfl rfl ?_)
     intro wq109 H111
     refine w_g (v := .bool (!(((mayO (Co.mk n p l q ft) a0 a1 m).wt) == ((mayO (Co.mk n p l q ft) a0 a1 m).wt)))) (neg_of (beq_self_eq_true ((mayO (Co.mk n p l q ft) a0 a1 m).ck))) (x_bin rfl rfl rfl (b_neN Try.underlying4 rfl)) ?_
     refine w_v (v := .bool (!(((mayO (Co.mk n p l q ft) a0 a1 m).wt) == ((mayO (Co.mk n p l q ft) a0 a1 m).wt)))) (x_pick_f rfl rfl (neg_of (beq_self_eq_true ((mayO (Co.mk n p l q ft) a0 a1 m).ck))) rfl) ?_
     refine w_m ?_
     refine w_g (neg_of (beq_self_eq_true ((mayO (Co.mk n p l q ft) a0 a1 m).wt))) xm ?_
     refine w_g (neg_of (beq_self_eq_true ((mayO (Co.mk n p l q ft) a0 a1 m).wt))) xm ?_
     refine l_of (s_callK H111 [9, 13, 14, 15, 10, 11, 12] [7, 8, 9, 10, 11, 12, 13, 14, 15, 0, 4, 5, 6, 1, 2, 3, 16, 17, 18, 19, 20, 21, 22, 23] (by decide) rfl (wt1 rfl rfl rfl rfl (neg_of (beq_self_eq_true ((mayO (Co.mk n p l q ft) a0 a1 m).wt)))) (x_call' rfl rfl cl13) (fun _ => begun_o sg9 (Co.mk n p l q ft) false A27 A28 (mayO (Co.mk n p l q ft) a0 a1 m) (mayQ (Co.mk n p l q ft) a0 a1 m) _ (H111.takes [9, 13, 14, 15, 10, 11, 12] (by decide))) (by decide) rfl rfl ?_)
     intro wq112 H114
     refine w_g (neg_of (beq_self_eq_true ((mayO (Co.mk n p l q ft) a0 a1 m).wt))) xm ?_
     refine w_g (neg_of (beq_self_eq_true ((mayO (Co.mk n p l q ft) a0 a1 m).wt))) xm ?_
     refine w_g (v := .bool true) (neg_of (beq_self_eq_true ((mayO (Co.mk n p l q ft) a0 a1 m).wt))) (x_not (b := false) rfl rfl) ?_
     refine l_of (s_callK H114 [1, 5, 6, 7, 2, 3, 4] [7, 0, 4, 5, 6, 1, 2, 3, 8, 9, 10, 11, 12, 13, 14, 15, 16, 17, 18, 19, 20, 21, 22, 23] (by decide) rfl (wt1 rfl rfl rfl rfl (neg_of (beq_self_eq_true ((mayO (Co.mk n p l q ft) a0 a1 m).wt)))) (x_call' rfl rfl cl13) (fun _ => begun_o sg14 (Co.mk n p l q ft) true A32 A31 (mayO (Co.mk n p l q ft) a0 a1 m) (mayQ (Co.mk n p l q ft) a0 a1 m) _ (H114.takes [1, 5, 6, 7, 2, 3, 4] (by decide))) (by decide) rfl rfl ?_)
     intro wq115 H117
     refine w_g (v := .bool (!(((mayO (Co.mk n p l q ft) a0 a1 m).bg) == ((mayO (Co.mk n p l q ft) a0 a1 m).bg)))) (neg_of (beq_self_eq_true ((mayO (Co.mk n p l q ft) a0 a1 m).wt))) (x_bin rfl rfl rfl (b_neN Try.underlying4 rfl)) ?_
     refine w_v (v := .bool (!(((mayO (Co.mk n p l q ft) a0 a1 m).bg) == ((mayO (Co.mk n p l q ft) a0 a1 m).bg)))) (x_pick_f rfl rfl (neg_of (beq_self_eq_true ((mayO (Co.mk n p l q ft) a0 a1 m).wt))) rfl) ?_
     refine w_m ?_
     refine w_g (neg_of (beq_self_eq_true ((mayO (Co.mk n p l q ft) a0 a1 m).bg))) xm ?_
     refine w_g (neg_of (beq_self_eq_true ((mayO (Co.mk n p l q ft) a0 a1 m).bg))) xm ?_
     refine l_of (s_call (wt1 rfl rfl rfl rfl (neg_of (beq_self_eq_true ((mayO (Co.mk n p l q ft) a0 a1 m).bg)))) (x_call' rfl rfl cl9) (waiting_o sg9 (Co.mk n p l q ft) false A27 A28 (mayO (Co.mk n p l q ft) a0 a1 m) (mayQ (Co.mk n p l q ft) a0 a1 m) (hw34.wok (by omega)).wa _ (H117.takes [9, 13, 14, 15, 10, 11, 12] (by decide))) ?_)
     rintro _ wq120 ⟨p118, c119, rfl, H121⟩
     replace H121 : S wq120 [Rw 49 3 p118 (mayO (Co.mk n p l q ft) a0 a1 m).wa.length c119 (chV (mayO (Co.mk n p l q ft) a0 a1 m).wa), sgI sg9 (Co.mk n p l q ft) true A28 A27 (mayQ (Co.mk n p l q ft) a0 a1 m) (mayO (Co.mk n p l q ft) a0 a1 m), alI A27 (mayO (Co.mk n p l q ft) a0 a1 m), waI A27 (mayO (Co.mk n p l q ft) a0 a1 m), goI A27 (mayO (Co.mk n p l q ft) a0 a1 m), alI A28 (mayQ (Co.mk n p l q ft) a0 a1 m), waI A28 (mayQ (Co.mk n p l q ft) a0 a1 m), goI A28 (mayQ (Co.mk n p l q ft) a0 a1 m), Rw 3 1 p88 (mayQ (Co.mk n p l q ft) a0 a1 m).al.length c89 (zV (mayQ (Co.mk n p l q ft) a0 a1 m).al), sgI sg14 (Co.mk n p l q ft) true A32 A31 (mayO (Co.mk n p l q ft) a0 a1 m) (mayQ (Co.mk n p l q ft) a0 a1 m), alI A31 (mayQ (Co.mk n p l q ft) a0 a1 m), waI A31 (mayQ (Co.mk n p l q ft) a0 a1 m), goI A31 (mayQ (Co.mk n p l q ft) a0 a1 m), alI A32 (mayO (Co.mk n p l q ft) a0 a1 m), waI A32 (mayO (Co.mk n p l q ft) a0 a1 m), goI A32 (mayO (Co.mk n p l q ft) a0 a1 m), Rw 3 1 p84 (mayQ (Co.mk n p l q ft) a0 a1 m).al.length c85 (zV (mayQ (Co.mk n p l q ft) a0 a1 m).al), Rw 49 3 p78 (owedS (mayQ (Co.mk n p l q ft) a0 a1 m)).length c79 (chV (owedS (mayQ (Co.mk n p l q ft) a0 a1 m))), Rw 49 3 p74 (owedS (mayQ (Co.mk n p l q ft) a0 a1 m)).length c75 (chV (owedS (mayQ (Co.mk n p l q ft) a0 a1 m))), Rw 49 3 p68 (mayQ (Co.mk n p l q ft) a0 a1 m).wa.length c69 (chV (mayQ (Co.mk n p l q ft) a0 a1 m).wa), Rw 49 3 p64 (mayQ (Co.mk n p l q ft) a0 a1 m).wa.length c65 (chV (mayQ (Co.mk n p l q ft) a0 a1 m).wa), Ob g37 (.cells #[.bool true, .bool false] 4 (0, 0)), Ob g20 (.cells #[.bool false, .int .i64 (m.kind), .int .i64 (m.i1), .int .i64 (m.i2), .int .i64 (m.i3), .int .i64 (m.i4), .int .i64 (m.i5), .string (m.root), .string (m.data)] 35 (0, 0)), Ob g1 (.cells #[.int .i64 n, .int .i64 p, .int .i64 l, .int .i64 q, .bool ft] 23 (0, 0)), Old w no] := by have h := H117.absorbI [9, 13, 14, 15, 10, 11, 12] H121; exact h
     refine b_ret rfl rfl ?_
     refine w_g (neg_of (beq_self_eq_true ((mayO (Co.mk n p l q ft) a0 a1 m).bg))) xm ?_
     refine w_g (neg_of (beq_self_eq_true ((mayO (Co.mk n p l q ft) a0 a1 m).bg))) xm ?_
     refine w_g (v := .bool true) (neg_of (beq_self_eq_true ((mayO (Co.mk n p l q ft) a0 a1 m).bg))) (x_not (b := false) rfl rfl) ?_
     refine l_of (s_call (wt1 rfl rfl rfl rfl (neg_of (beq_self_eq_true ((mayO (Co.mk n p l q ft) a0 a1 m).bg)))) (x_call' rfl rfl cl9) (waiting_o sg14 (Co.mk n p l q ft) true A32 A31 (mayO (Co.mk n p l q ft) a0 a1 m) (mayQ (Co.mk n p l q ft) a0 a1 m) (hw34.wok (by omega)).wa _ (H121.takes [9, 13, 14, 15, 10, 11, 12] (by decide))) ?_)
     rintro _ wq124 ⟨p122, c123, rfl, H125⟩
     replace H125 : S wq124 [Rw 49 3 p122 (mayO (Co.mk n p l q ft) a0 a1 m).wa.length c123 (chV (mayO (Co.mk n p l q ft) a0 a1 m).wa), sgI sg14 (Co.mk n p l q ft) true A32 A31 (mayO (Co.mk n p l q ft) a0 a1 m) (mayQ (Co.mk n p l q ft) a0 a1 m), alI A32 (mayO (Co.mk n p l q ft) a0 a1 m), waI A32 (mayO (Co.mk n p l q ft) a0 a1 m), goI A32 (mayO (Co.mk n p l q ft) a0 a1 m), alI A31 (mayQ (Co.mk n p l q ft) a0 a1 m), waI A31 (mayQ (Co.mk n p l q ft) a0 a1 m), goI A31 (mayQ (Co.mk n p l q ft) a0 a1 m), Rw 49 3 p118 (mayO (Co.mk n p l q ft) a0 a1 m).wa.length c119 (chV (mayO (Co.mk n p l q ft) a0 a1 m).wa), sgI sg9 (Co.mk n p l q ft) true A28 A27 (mayQ (Co.mk n p l q ft) a0 a1 m) (mayO (Co.mk n p l q ft) a0 a1 m), alI A27 (mayO (Co.mk n p l q ft) a0 a1 m), waI A27 (mayO (Co.mk n p l q ft) a0 a1 m), goI A27 (mayO (Co.mk n p l q ft) a0 a1 m), alI A28 (mayQ (Co.mk n p l q ft) a0 a1 m), waI A28 (mayQ (Co.mk n p l q ft) a0 a1 m), goI A28 (mayQ (Co.mk n p l q ft) a0 a1 m), Rw 3 1 p88 (mayQ (Co.mk n p l q ft) a0 a1 m).al.length c89 (zV (mayQ (Co.mk n p l q ft) a0 a1 m).al), Rw 3 1 p84 (mayQ (Co.mk n p l q ft) a0 a1 m).al.length c85 (zV (mayQ (Co.mk n p l q ft) a0 a1 m).al), Rw 49 3 p78 (owedS (mayQ (Co.mk n p l q ft) a0 a1 m)).length c79 (chV (owedS (mayQ (Co.mk n p l q ft) a0 a1 m))), Rw 49 3 p74 (owedS (mayQ (Co.mk n p l q ft) a0 a1 m)).length c75 (chV (owedS (mayQ (Co.mk n p l q ft) a0 a1 m))), Rw 49 3 p68 (mayQ (Co.mk n p l q ft) a0 a1 m).wa.length c69 (chV (mayQ (Co.mk n p l q ft) a0 a1 m).wa), Rw 49 3 p64 (mayQ (Co.mk n p l q ft) a0 a1 m).wa.length c65 (chV (mayQ (Co.mk n p l q ft) a0 a1 m).wa), Ob g37 (.cells #[.bool true, .bool false] 4 (0, 0)), Ob g20 (.cells #[.bool false, .int .i64 (m.kind), .int .i64 (m.i1), .int .i64 (m.i2), .int .i64 (m.i3), .int .i64 (m.i4), .int .i64 (m.i5), .string (m.root), .string (m.data)] 35 (0, 0)), Ob g1 (.cells #[.int .i64 n, .int .i64 p, .int .i64 l, .int .i64 q, .bool ft] 23 (0, 0)), Old w no] := by have h := H121.absorbI [9, 13, 14, 15, 10, 11, 12] H125; exact h
     refine b_ret rfl rfl ?_
     refine l_of (s_call0 H125 (wt1 rfl rfl rfl rfl (neg_of (beq_self_eq_true ((mayO (Co.mk n p l q ft) a0 a1 m).bg)))) (x_call' rfl rfl cl14) (choices_s (mayO (Co.mk n p l q ft) a0 a1 m).wa p118 p122 c119 c123 (hw34.wok (by omega)).wa _ (H125.rwReads (k := 8) rfl) (H125.rwReads (k := 0) rfl)) rfl rfl ?_)
     intro wq126 H127
     refine w_g (v := .bool false) (neg_of (beq_self_eq_true ((mayO (Co.mk n p l q ft) a0 a1 m).bg))) (x_not (b := true) rfl rfl) ?_
     refine w_v (v := .bool false) (x_pick_f rfl rfl (neg_of (beq_self_eq_true ((mayO (Co.mk n p l q ft) a0 a1 m).bg))) rfl) ?_
     refine w_m ?_
     refine w_g rfl xm ?_
     refine w_g rfl xm ?_
     refine l_of (s_call (wt1 rfl rfl rfl rfl rfl) (x_call' rfl rfl cl15) (owed_o sg9 (Co.mk n p l q ft) false A27 A28 (mayO (Co.mk n p l q ft) a0 a1 m) (mayQ (Co.mk n p l q ft) a0 a1 m) (hw34.wok (by omega)).al (hw34.wok (by omega)).wa hw34.ok _ (H127.takes [9, 10, 11, 12, 13, 14, 15] (by decide))) ?_)
     rintro _ wq130 ⟨p128, c129, rfl, H131⟩
     replace H131 : S wq130 [Rw 49 3 p128 (owedS (mayO (Co.mk n p l q ft) a0 a1 m)).length c129 (chV (owedS (mayO (Co.mk n p l q ft) a0 a1 m))), sgI sg9 (Co.mk n p l q ft) true A28 A27 (mayQ (Co.mk n p l q ft) a0 a1 m) (mayO (Co.mk n p l q ft) a0 a1 m), alI A27 (mayO (Co.mk n p l q ft) a0 a1 m), waI A27 (mayO (Co.mk n p l q ft) a0 a1 m), goI A27 (mayO (Co.mk n p l q ft) a0 a1 m), alI A28 (mayQ (Co.mk n p l q ft) a0 a1 m), waI A28 (mayQ (Co.mk n p l q ft) a0 a1 m), goI A28 (mayQ (Co.mk n p l q ft) a0 a1 m), Rw 49 3 p122 (mayO (Co.mk n p l q ft) a0 a1 m).wa.length c123 (chV (mayO (Co.mk n p l q ft) a0 a1 m).wa), sgI sg14 (Co.mk n p l q ft) true A32 A31 (mayO (Co.mk n p l q ft) a0 a1 m) (mayQ (Co.mk n p l q ft) a0 a1 m), alI A32 (mayO (Co.mk n p l q ft) a0 a1 m), waI A32 (mayO (Co.mk n p l q ft) a0 a1 m), goI A32 (mayO (Co.mk n p l q ft) a0 a1 m), alI A31 (mayQ (Co.mk n p l q ft) a0 a1 m), waI A31 (mayQ (Co.mk n p l q ft) a0 a1 m), goI A31 (mayQ (Co.mk n p l q ft) a0 a1 m), Rw 49 3 p118 (mayO (Co.mk n p l q ft) a0 a1 m).wa.length c119 (chV (mayO (Co.mk n p l q ft) a0 a1 m).wa), Rw 3 1 p88 (mayQ (Co.mk n p l q ft) a0 a1 m).al.length c89 (zV (mayQ (Co.mk n p l q ft) a0 a1 m).al), Rw 3 1 p84 (mayQ (Co.mk n p l q ft) a0 a1 m).al.length c85 (zV (mayQ (Co.mk n p l q ft) a0 a1 m).al), Rw 49 3 p78 (owedS (mayQ (Co.mk n p l q ft) a0 a1 m)).length c79 (chV (owedS (mayQ (Co.mk n p l q ft) a0 a1 m))), Rw 49 3 p74 (owedS (mayQ (Co.mk n p l q ft) a0 a1 m)).length c75 (chV (owedS (mayQ (Co.mk n p l q ft) a0 a1 m))), Rw 49 3 p68 (mayQ (Co.mk n p l q ft) a0 a1 m).wa.length c69 (chV (mayQ (Co.mk n p l q ft) a0 a1 m).wa), Rw 49 3 p64 (mayQ (Co.mk n p l q ft) a0 a1 m).wa.length c65 (chV (mayQ (Co.mk n p l q ft) a0 a1 m).wa), Ob g37 (.cells #[.bool true, .bool false] 4 (0, 0)), Ob g20 (.cells #[.bool false, .int .i64 (m.kind), .int .i64 (m.i1), .int .i64 (m.i2), .int .i64 (m.i3), .int .i64 (m.i4), .int .i64 (m.i5), .string (m.root), .string (m.data)] 35 (0, 0)), Ob g1 (.cells #[.int .i64 n, .int .i64 p, .int .i64 l, .int .i64 q, .bool ft] 23 (0, 0)), Old w no] := by have h := H127.absorbI [9, 10, 11, 12, 13, 14, 15] H131; exact h
     refine b_ret rfl rfl ?_
     refine w_g rfl xm ?_
     refine w_g rfl xm ?_
     refine w_g (v := .bool true) rfl (x_not (b := false) rfl rfl) ?_
     refine l_of (s_call (wt1 rfl rfl rfl rfl rfl) (x_call' rfl rfl cl15) (owed_o sg14 (Co.mk n p l q ft) true A32 A31 (mayO (Co.mk n p l q ft) a0 a1 m) (mayQ (Co.mk n p l q ft) a0 a1 m) (hw34.wok (by omega)).al (hw34.wok (by omega)).wa hw34.ok _ (H131.takes [9, 10, 11, 12, 13, 14, 15] (by decide))) ?_)
     rintro _ wq134 ⟨p132, c133, rfl, H135⟩
     replace H135 : S wq134 [Rw 49 3 p132 (owedS (mayO (Co.mk n p l q ft) a0 a1 m)).length c133 (chV (owedS (mayO (Co.mk n p l q ft) a0 a1 m))), sgI sg14 (Co.mk n p l q ft) true A32 A31 (mayO (Co.mk n p l q ft) a0 a1 m) (mayQ (Co.mk n p l q ft) a0 a1 m), alI A32 (mayO (Co.mk n p l q ft) a0 a1 m), waI A32 (mayO (Co.mk n p l q ft) a0 a1 m), goI A32 (mayO (Co.mk n p l q ft) a0 a1 m), alI A31 (mayQ (Co.mk n p l q ft) a0 a1 m), waI A31 (mayQ (Co.mk n p l q ft) a0 a1 m), goI A31 (mayQ (Co.mk n p l q ft) a0 a1 m), Rw 49 3 p128 (owedS (mayO (Co.mk n p l q ft) a0 a1 m)).length c129 (chV (owedS (mayO (Co.mk n p l q ft) a0 a1 m))), sgI sg9 (Co.mk n p l q ft) true A28 A27 (mayQ (Co.mk n p l q ft) a0 a1 m) (mayO (Co.mk n p l q ft) a0 a1 m), alI A27 (mayO (Co.mk n p l q ft) a0 a1 m), waI A27 (mayO (Co.mk n p l q ft) a0 a1 m), goI A27 (mayO (Co.mk n p l q ft) a0 a1 m), alI A28 (mayQ (Co.mk n p l q ft) a0 a1 m), waI A28 (mayQ (Co.mk n p l q ft) a0 a1 m), goI A28 (mayQ (Co.mk n p l q ft) a0 a1 m), Rw 49 3 p122 (mayO (Co.mk n p l q ft) a0 a1 m).wa.length c123 (chV (mayO (Co.mk n p l q ft) a0 a1 m).wa), Rw 49 3 p118 (mayO (Co.mk n p l q ft) a0 a1 m).wa.length c119 (chV (mayO (Co.mk n p l q ft) a0 a1 m).wa), Rw 3 1 p88 (mayQ (Co.mk n p l q ft) a0 a1 m).al.length c89 (zV (mayQ (Co.mk n p l q ft) a0 a1 m).al), Rw 3 1 p84 (mayQ (Co.mk n p l q ft) a0 a1 m).al.length c85 (zV (mayQ (Co.mk n p l q ft) a0 a1 m).al), Rw 49 3 p78 (owedS (mayQ (Co.mk n p l q ft) a0 a1 m)).length c79 (chV (owedS (mayQ (Co.mk n p l q ft) a0 a1 m))), Rw 49 3 p74 (owedS (mayQ (Co.mk n p l q ft) a0 a1 m)).length c75 (chV (owedS (mayQ (Co.mk n p l q ft) a0 a1 m))), Rw 49 3 p68 (mayQ (Co.mk n p l q ft) a0 a1 m).wa.length c69 (chV (mayQ (Co.mk n p l q ft) a0 a1 m).wa), Rw 49 3 p64 (mayQ (Co.mk n p l q ft) a0 a1 m).wa.length c65 (chV (mayQ (Co.mk n p l q ft) a0 a1 m).wa), Ob g37 (.cells #[.bool true, .bool false] 4 (0, 0)), Ob g20 (.cells #[.bool false, .int .i64 (m.kind), .int .i64 (m.i1), .int .i64 (m.i2), .int .i64 (m.i3), .int .i64 (m.i4), .int .i64 (m.i5), .string (m.root), .string (m.data)] 35 (0, 0)), Ob g1 (.cells #[.int .i64 n, .int .i64 p, .int .i64 l, .int .i64 q, .bool ft] 23 (0, 0)), Old w no] := by have h := H131.absorbI [9, 10, 11, 12, 13, 14, 15] H135; exact h
     refine b_ret rfl rfl ?_
     refine l_of (s_call0 H135 (wt1 rfl rfl rfl rfl rfl) (x_call' rfl rfl cl14) (choices_s (owedS (mayO (Co.mk n p l q ft) a0 a1 m)) p128 p132 c129 c133 (owed_le (hw34.wok (by omega)).wa) _ (H135.rwReads (k := 8) rfl) (H135.rwReads (k := 0) rfl)) rfl rfl ?_)
     intro wq136 H137
     refine w_g (v := .bool false) rfl (x_not (b := true) rfl rfl) ?_
     refine w_v (v := .bool false) (x_pick_f rfl rfl rfl rfl) ?_
     refine w_m ?_
     refine w_g rfl xm ?_
     refine w_g rfl xm ?_
     refine l_of (s_call (wt1 rfl rfl rfl rfl rfl) (x_call' rfl rfl cl17) (allowed_o sg9 (Co.mk n p l q ft) false A27 A28 (mayO (Co.mk n p l q ft) a0 a1 m) (mayQ (Co.mk n p l q ft) a0 a1 m) (hw34.wok (by omega)).al _ (H137.takes [9, 10, 11, 12, 13, 14, 15] (by decide))) ?_)
     rintro _ wq140 ⟨p138, c139, rfl, H141⟩
     replace H141 : S wq140 [Rw 3 1 p138 (mayO (Co.mk n p l q ft) a0 a1 m).al.length c139 (zV (mayO (Co.mk n p l q ft) a0 a1 m).al), sgI sg9 (Co.mk n p l q ft) true A28 A27 (mayQ (Co.mk n p l q ft) a0 a1 m) (mayO (Co.mk n p l q ft) a0 a1 m), alI A27 (mayO (Co.mk n p l q ft) a0 a1 m), waI A27 (mayO (Co.mk n p l q ft) a0 a1 m), goI A27 (mayO (Co.mk n p l q ft) a0 a1 m), alI A28 (mayQ (Co.mk n p l q ft) a0 a1 m), waI A28 (mayQ (Co.mk n p l q ft) a0 a1 m), goI A28 (mayQ (Co.mk n p l q ft) a0 a1 m), Rw 49 3 p132 (owedS (mayO (Co.mk n p l q ft) a0 a1 m)).length c133 (chV (owedS (mayO (Co.mk n p l q ft) a0 a1 m))), sgI sg14 (Co.mk n p l q ft) true A32 A31 (mayO (Co.mk n p l q ft) a0 a1 m) (mayQ (Co.mk n p l q ft) a0 a1 m), alI A32 (mayO (Co.mk n p l q ft) a0 a1 m), waI A32 (mayO (Co.mk n p l q ft) a0 a1 m), goI A32 (mayO (Co.mk n p l q ft) a0 a1 m), alI A31 (mayQ (Co.mk n p l q ft) a0 a1 m), waI A31 (mayQ (Co.mk n p l q ft) a0 a1 m), goI A31 (mayQ (Co.mk n p l q ft) a0 a1 m), Rw 49 3 p128 (owedS (mayO (Co.mk n p l q ft) a0 a1 m)).length c129 (chV (owedS (mayO (Co.mk n p l q ft) a0 a1 m))), Rw 49 3 p122 (mayO (Co.mk n p l q ft) a0 a1 m).wa.length c123 (chV (mayO (Co.mk n p l q ft) a0 a1 m).wa), Rw 49 3 p118 (mayO (Co.mk n p l q ft) a0 a1 m).wa.length c119 (chV (mayO (Co.mk n p l q ft) a0 a1 m).wa), Rw 3 1 p88 (mayQ (Co.mk n p l q ft) a0 a1 m).al.length c89 (zV (mayQ (Co.mk n p l q ft) a0 a1 m).al), Rw 3 1 p84 (mayQ (Co.mk n p l q ft) a0 a1 m).al.length c85 (zV (mayQ (Co.mk n p l q ft) a0 a1 m).al), Rw 49 3 p78 (owedS (mayQ (Co.mk n p l q ft) a0 a1 m)).length c79 (chV (owedS (mayQ (Co.mk n p l q ft) a0 a1 m))), Rw 49 3 p74 (owedS (mayQ (Co.mk n p l q ft) a0 a1 m)).length c75 (chV (owedS (mayQ (Co.mk n p l q ft) a0 a1 m))), Rw 49 3 p68 (mayQ (Co.mk n p l q ft) a0 a1 m).wa.length c69 (chV (mayQ (Co.mk n p l q ft) a0 a1 m).wa), Rw 49 3 p64 (mayQ (Co.mk n p l q ft) a0 a1 m).wa.length c65 (chV (mayQ (Co.mk n p l q ft) a0 a1 m).wa), Ob g37 (.cells #[.bool true, .bool false] 4 (0, 0)), Ob g20 (.cells #[.bool false, .int .i64 (m.kind), .int .i64 (m.i1), .int .i64 (m.i2), .int .i64 (m.i3), .int .i64 (m.i4), .int .i64 (m.i5), .string (m.root), .string (m.data)] 35 (0, 0)), Ob g1 (.cells #[.int .i64 n, .int .i64 p, .int .i64 l, .int .i64 q, .bool ft] 23 (0, 0)), Old w no] := by have h := H137.absorbI [9, 10, 11, 12, 13, 14, 15] H141; exact h
     refine b_ret rfl rfl ?_
     refine w_g rfl xm ?_
     refine w_g rfl xm ?_
     refine w_g (v := .bool true) rfl (x_not (b := false) rfl rfl) ?_
     refine l_of (s_call (wt1 rfl rfl rfl rfl rfl) (x_call' rfl rfl cl17) (allowed_o sg14 (Co.mk n p l q ft) true A32 A31 (mayO (Co.mk n p l q ft) a0 a1 m) (mayQ (Co.mk n p l q ft) a0 a1 m) (hw34.wok (by omega)).al _ (H141.takes [9, 10, 11, 12, 13, 14, 15] (by decide))) ?_)
     rintro _ wq144 ⟨p142, c143, rfl, H145⟩
     replace H145 : S wq144 [Rw 3 1 p142 (mayO (Co.mk n p l q ft) a0 a1 m).al.length c143 (zV (mayO (Co.mk n p l q ft) a0 a1 m).al), sgI sg14 (Co.mk n p l q ft) true A32 A31 (mayO (Co.mk n p l q ft) a0 a1 m) (mayQ (Co.mk n p l q ft) a0 a1 m), alI A32 (mayO (Co.mk n p l q ft) a0 a1 m), waI A32 (mayO (Co.mk n p l q ft) a0 a1 m), goI A32 (mayO (Co.mk n p l q ft) a0 a1 m), alI A31 (mayQ (Co.mk n p l q ft) a0 a1 m), waI A31 (mayQ (Co.mk n p l q ft) a0 a1 m), goI A31 (mayQ (Co.mk n p l q ft) a0 a1 m), Rw 3 1 p138 (mayO (Co.mk n p l q ft) a0 a1 m).al.length c139 (zV (mayO (Co.mk n p l q ft) a0 a1 m).al), sgI sg9 (Co.mk n p l q ft) true A28 A27 (mayQ (Co.mk n p l q ft) a0 a1 m) (mayO (Co.mk n p l q ft) a0 a1 m), alI A27 (mayO (Co.mk n p l q ft) a0 a1 m), waI A27 (mayO (Co.mk n p l q ft) a0 a1 m), goI A27 (mayO (Co.mk n p l q ft) a0 a1 m), alI A28 (mayQ (Co.mk n p l q ft) a0 a1 m), waI A28 (mayQ (Co.mk n p l q ft) a0 a1 m), goI A28 (mayQ (Co.mk n p l q ft) a0 a1 m), Rw 49 3 p132 (owedS (mayO (Co.mk n p l q ft) a0 a1 m)).length c133 (chV (owedS (mayO (Co.mk n p l q ft) a0 a1 m))), Rw 49 3 p128 (owedS (mayO (Co.mk n p l q ft) a0 a1 m)).length c129 (chV (owedS (mayO (Co.mk n p l q ft) a0 a1 m))), Rw 49 3 p122 (mayO (Co.mk n p l q ft) a0 a1 m).wa.length c123 (chV (mayO (Co.mk n p l q ft) a0 a1 m).wa), Rw 49 3 p118 (mayO (Co.mk n p l q ft) a0 a1 m).wa.length c119 (chV (mayO (Co.mk n p l q ft) a0 a1 m).wa), Rw 3 1 p88 (mayQ (Co.mk n p l q ft) a0 a1 m).al.length c89 (zV (mayQ (Co.mk n p l q ft) a0 a1 m).al), Rw 3 1 p84 (mayQ (Co.mk n p l q ft) a0 a1 m).al.length c85 (zV (mayQ (Co.mk n p l q ft) a0 a1 m).al), Rw 49 3 p78 (owedS (mayQ (Co.mk n p l q ft) a0 a1 m)).length c79 (chV (owedS (mayQ (Co.mk n p l q ft) a0 a1 m))), Rw 49 3 p74 (owedS (mayQ (Co.mk n p l q ft) a0 a1 m)).length c75 (chV (owedS (mayQ (Co.mk n p l q ft) a0 a1 m))), Rw 49 3 p68 (mayQ (Co.mk n p l q ft) a0 a1 m).wa.length c69 (chV (mayQ (Co.mk n p l q ft) a0 a1 m).wa), Rw 49 3 p64 (mayQ (Co.mk n p l q ft) a0 a1 m).wa.length c65 (chV (mayQ (Co.mk n p l q ft) a0 a1 m).wa), Ob g37 (.cells #[.bool true, .bool false] 4 (0, 0)), Ob g20 (.cells #[.bool false, .int .i64 (m.kind), .int .i64 (m.i1), .int .i64 (m.i2), .int .i64 (m.i3), .int .i64 (m.i4), .int .i64 (m.i5), .string (m.root), .string (m.data)] 35 (0, 0)), Ob g1 (.cells #[.int .i64 n, .int .i64 p, .int .i64 l, .int .i64 q, .bool ft] 23 (0, 0)), Old w no] := by have h := H141.absorbI [9, 10, 11, 12, 13, 14, 15] H145; exact h
     refine b_ret rfl rfl ?_
     refine l_of (s_call0 H145 (wt1 rfl rfl rfl rfl rfl) (x_call' rfl rfl cl16) (ints_s (mayO (Co.mk n p l q ft) a0 a1 m).al p138 p142 c139 c143 (hw34.wok (by omega)).al _ (H145.rwReads (k := 8) rfl) (H145.rwReads (k := 0) rfl)) rfl rfl ?_)
     intro wq146 H147
     refine w_g (v := .bool false) rfl (x_not (b := true) rfl rfl) ?_
     refine w_v (v := .bool false) (x_pick_f rfl rfl rfl rfl) ?_
     refine w_e ?_
     refine g_weak [(5, .pointer (some ⟨sg9, 0, none⟩)), (7, .pointer (some ⟨sg14, 0, none⟩)), (58, .slice pl ls.length cl), (59, .int .i64 ((ls.length : Int))), (60, .int .i64 ((k : Int))), (78, .slice (some ⟨g37, 0, none⟩) (2) (2)), (79, .int .i64 2), (80, .int .i64 1), (154, .bool false)] ⟨rfl, rfl, rfl, rfl, rfl, rfl, rfl, rfl, rfl, trivial⟩ ?_
     refine g_cond_f rfl rfl ?_
     refine g_skip ?_
     refine g_in ?_
     refine g_then ?_
     refine g_region ?_
     refine w_b (v := .int .i64 2) (hb := (b_add (r := 2) (by decide))) ?_
     refine w_m ?_
     refine w_e ?_
     refine g_roundU ?_
     refine w_s ?_
     refine w_b ?_
     refine w_e ?_
     refine g_seq ?_
     refine g_cond_f rfl (by decide) ?_
     refine g_exit ?_
     refine g_then_exit ?_
     refine g_then_exit ?_
     refine g_in_hit ?_
     refine g_in ?_
     refine g_then ?_
     refine g_region ?_
     refine w_b (v := .int .i64 ((k : Int) + 1)) (hb := (b_add (w64 (by omega)))) ?_
     refine w_m ?_
     refine w_e ?_
     refine g_round (i := (k, a0, a1, A0, A1, C0, C1)) ((k + 1), (mayO (Co.mk n p l q ft) a0 a1 m), (mayQ (Co.mk n p l q ft) a0 a1 m), A27, A28, A31, A32) ?_ ?_ ?_
     · exact ⟨rfl, rfl, rfl, rfl, rfl, trivial⟩
     · exact ⟨by omega, hw34, hw33, (H147.takes [9, 13, 14, 15, 10, 11, 12, 1, 2, 3, 4, 5, 6, 7, 28, 29] (by decide))⟩
     · (try dsimp only); omega
    ·
     refine w_v (v := .agg #[.bool true, .int .i64 (m.kind), .int .i64 (m.i1), .int .i64 (m.i2), .int .i64 (m.i3), .int .i64 (m.i4), .int .i64 (m.i5), .string (m.root), .string (m.data)]) (x_loadRA (vs := snL ⟨true, m⟩) k (H18.oldReads (k := 15) rfl hr) (by omega) rfl rfl Try.underlying35 rfl sz35 (by rfl) (by rw [← hsn]; exact snV_at (by omega))) ?_
     refine l_of (s_alloc H18 (wt0 rfl) rfl rfl rfl ze35 ?_)
     intro g148 wq149 H150
     refine l_of (w_st #[.bool true, .int .i64 (m.kind), .int .i64 (m.i1), .int .i64 (m.i2), .int .i64 (m.i3), .int .i64 (m.i4), .int .i64 (m.i5), .string (m.root), .string (m.data)] H150 0 ?_)
     intro wq151 H152
     refine w_e ?_
     refine g_seq ?_
     refine g_seq ?_
     refine g_any [] (fun wx => S wx [Ob g148 (.cells #[.bool true, .int .i64 (m.kind), .int .i64 (m.i1), .int .i64 (m.i2), .int .i64 (m.i3), .int .i64 (m.i4), .int .i64 (m.i5), .string (m.root), .string (m.data)] 35 (0, 0))]) [] (by kernel_rfl) H152 (fun wq153 H154 => ?_)
     have cm3 := H154.mask [true, false, false, false, false, false, false, false, false, false, false, false, false, false, false, false, false]
     refine w_t 0 rfl cm3 (fun _ _ => xm) ?_
     refine w_t 1 rfl cm3 (fun _ _ => xf 0) ?_
     refine w_t 2 rfl cm3 (fun _ H => xl H 0) ?_
     refine w_t 3 rfl cm3 (fun _ _ => xf 1) ?_
     refine w_t (v := .agg m.cells) 4 rfl cm3 (fun _ H => x_loadA H 0 rfl rfl Try.underlying33 rfl sz33 rfl rfl rfl) ?_
     refine w_t 6 rfl cm3 (fun _ _ => xm) ?_
     refine w_t 7 rfl cm3 (fun _ _ => xf 0) ?_
     refine w_t 8 rfl cm3 (fun _ H => xl H 0) ?_
     refine w_t (v := .bool false) 9 rfl cm3 (fun _ _ => x_not (b := true) rfl rfl) ?_
     refine w_t 10 rfl cm3 (fun _ _ => xf 1) ?_
     refine w_t (v := .agg m.cells) 11 rfl cm3 (fun _ H => x_loadA H 0 rfl rfl Try.underlying33 rfl sz33 rfl rfl rfl) ?_
     refine a_one (i := 5) (by kernel_rfl) rfl ?_
     refine s_call (wt0 rfl) (x_call' rfl rfl cl8) (stepF_o sg9 (Co.mk n p l q ft) true A1 A0 a1 a0 m hn (hw1.wok (by omega)) (hw0.wok (by omega)) _ (H154.takes [1, 2, 3, 4, 5, 6, 7] (by decide))) ?_
     rintro _ wq157 ⟨A156, A155, rfl, H158⟩
     replace H158 : S wq157 [sgI sg9 (Co.mk n p l q ft) true A156 A155 (mayO (Co.mk n p l q ft) a1 a0 m) (mayQ (Co.mk n p l q ft) a1 a0 m), alI A156 (mayO (Co.mk n p l q ft) a1 a0 m), waI A156 (mayO (Co.mk n p l q ft) a1 a0 m), goI A156 (mayO (Co.mk n p l q ft) a1 a0 m), alI A155 (mayQ (Co.mk n p l q ft) a1 a0 m), waI A155 (mayQ (Co.mk n p l q ft) a1 a0 m), goI A155 (mayQ (Co.mk n p l q ft) a1 a0 m), Ob g148 (.cells #[.bool true, .int .i64 (m.kind), .int .i64 (m.i1), .int .i64 (m.i2), .int .i64 (m.i3), .int .i64 (m.i4), .int .i64 (m.i5), .string (m.root), .string (m.data)] 35 (0, 0)), sgI sg14 (Co.mk n p l q ft) true C1 C0 a0 a1, alI C1 a0, waI C1 a0, goI C1 a0, alI C0 a1, waI C0 a1, goI C0 a1, Ob g1 (.cells #[.int .i64 n, .int .i64 p, .int .i64 l, .int .i64 q, .bool ft] 23 (0, 0)), Old w no] := by have h := H154.absorbI [1, 2, 3, 4, 5, 6, 7] H158; exact h
     refine b_ret rfl rfl ?_
     refine a_k (H158.mask [false, false, false, false, false, false, false, true, false, false, false, false, false, false, false, false, false]) ?_
     refine a_one (i := 12) (by kernel_rfl) rfl ?_
     have hw161 := hw1.mayO (a := a1) (b := a0) (m := m) hn
     have hw162 := hw0.mayQ (a := a1) (b := a0) (m := m) hn
     refine s_call (wt0 rfl) (x_call' rfl rfl cl8) (stepF_o sg14 (Co.mk n p l q ft) false C0 C1 a1 a0 m hn (hw1.wok (by omega)) (hw0.wok (by omega)) _ (H158.takes [8, 12, 13, 14, 9, 10, 11] (by decide))) ?_
     rintro _ wq163 ⟨A159, A160, rfl, H164⟩
     replace H164 : S wq163 [sgI sg14 (Co.mk n p l q ft) true A160 A159 (mayQ (Co.mk n p l q ft) a1 a0 m) (mayO (Co.mk n p l q ft) a1 a0 m), alI A159 (mayO (Co.mk n p l q ft) a1 a0 m), waI A159 (mayO (Co.mk n p l q ft) a1 a0 m), goI A159 (mayO (Co.mk n p l q ft) a1 a0 m), alI A160 (mayQ (Co.mk n p l q ft) a1 a0 m), waI A160 (mayQ (Co.mk n p l q ft) a1 a0 m), goI A160 (mayQ (Co.mk n p l q ft) a1 a0 m), sgI sg9 (Co.mk n p l q ft) true A156 A155 (mayO (Co.mk n p l q ft) a1 a0 m) (mayQ (Co.mk n p l q ft) a1 a0 m), alI A156 (mayO (Co.mk n p l q ft) a1 a0 m), waI A156 (mayO (Co.mk n p l q ft) a1 a0 m), goI A156 (mayO (Co.mk n p l q ft) a1 a0 m), alI A155 (mayQ (Co.mk n p l q ft) a1 a0 m), waI A155 (mayQ (Co.mk n p l q ft) a1 a0 m), goI A155 (mayQ (Co.mk n p l q ft) a1 a0 m), Ob g148 (.cells #[.bool true, .int .i64 (m.kind), .int .i64 (m.i1), .int .i64 (m.i2), .int .i64 (m.i3), .int .i64 (m.i4), .int .i64 (m.i5), .string (m.root), .string (m.data)] 35 (0, 0)), Ob g1 (.cells #[.int .i64 n, .int .i64 p, .int .i64 l, .int .i64 q, .bool ft] 23 (0, 0)), Old w no] := by have h := H158.absorbI [8, 12, 13, 14, 9, 10, 11] H164; exact h
     refine b_ret rfl rfl ?_
     have cm4 := H164.mask [false, false, false, false, false, false, false, false, false, false, false, false, false, false, true, false, false]
     refine a_k cm4 ?_
     refine w_t (v := .bool (!decide (((mayE (Co.mk n p l q ft) a1 a0 m) : Int) = (mayE (Co.mk n p l q ft) a1 a0 m)))) 13 rfl cm4 (fun _ _ => x_bin rfl rfl rfl b_neq) ?_
     refine a_done (by kernel_rfl) ?_
     refine g_then ?_
     refine g_weak [(5, .pointer (some ⟨sg9, 0, none⟩)), (7, .pointer (some ⟨sg14, 0, none⟩)), (58, .slice pl ls.length cl), (59, .int .i64 ((ls.length : Int))), (60, .int .i64 ((k : Int))), (77, .bool (!decide (((mayE (Co.mk n p l q ft) a1 a0 m) : Int) = (mayE (Co.mk n p l q ft) a1 a0 m))))] ⟨rfl, rfl, rfl, rfl, rfl, rfl, trivial⟩ ?_
     refine g_cond_f rfl (nf rfl) ?_
     refine g_skip ?_
     refine g_then ?_
     refine w_s ?_
     refine l_of (s_buildSlice H164 (wt0 rfl) rfl rfl rfl (vs := [.bool true, .bool false]) rfl Try.underlying40 sz4 ze4 rfl rfl (cells := #[.bool true, .bool false]) (by kernel_rfl) ?_)
     intro g165 wq166 H167
     refine w_v (v := .int .i64 2) (x_lenl rfl rfl Try.underlying40) ?_
     refine w_m ?_
     refine w_e ?_
     refine g_block ?_
     refine g_rounds 3 ?_
     refine g_roundU ?_
     refine w_s ?_
     refine w_b ?_
     refine w_e ?_
     refine g_seq ?_
     refine g_cond_t rfl (by decide) ?_
     refine g_skip ?_
     refine g_then ?_
     refine g_seq ?_
     refine g_block ?_
     refine w_s ?_
     refine w_v (v := .pointer (some ⟨g165, 0, none⟩)) (x_indexAddr 0 rfl rfl rfl Try.underlying40 sz4 (by omega) (off' := 0) rfl) ?_
     refine w_1 H167 0 ?_
     refine w_a ?_
     refine w_e ?_
     refine w_s ?_
     refine w_r2 ?_
     refine l_of (s_callK H167 [8, 9, 10, 11, 12, 13, 14] [7, 8, 9, 10, 11, 12, 13, 14, 0, 1, 2, 3, 4, 5, 6, 15, 16, 17] (by decide) rfl (wt0 rfl) (x_call' rfl rfl cl10) (fun _ => field_o sg9 (Co.mk n p l q ft) true A156 A155 (mayO (Co.mk n p l q ft) a1 a0 m) (mayQ (Co.mk n p l q ft) a1 a0 m) _ (H167.takes [8, 9, 10, 11, 12, 13, 14] (by decide))) (by decide) rfl rfl ?_)
     intro wq168 H170
     refine w_r2 ?_
     refine w_v (v := .bool false) (x_not (b := true) rfl rfl) ?_
     refine l_of (s_callK H170 [1, 2, 3, 4, 5, 6, 7] [7, 0, 1, 2, 3, 4, 5, 6, 8, 9, 10, 11, 12, 13, 14, 15, 16, 17] (by decide) rfl (wt0 rfl) (x_call' rfl rfl cl10) (fun _ => field_o sg14 (Co.mk n p l q ft) false A159 A160 (mayO (Co.mk n p l q ft) a1 a0 m) (mayQ (Co.mk n p l q ft) a1 a0 m) _ (H170.takes [1, 2, 3, 4, 5, 6, 7] (by decide))) (by decide) rfl rfl ?_)
     intro wq171 H173
     refine w_b (v := .bool (!decide ((mayO (Co.mk n p l q ft) a1 a0 m).fd = (mayO (Co.mk n p l q ft) a1 a0 m).fd))) (hb := b_nes) ?_
     refine w_m ?_
     refine w_g (nf rfl) xm ?_
     refine w_g (nf rfl) xm ?_
     refine l_of (s_callK H173 [8, 9, 10, 11, 12, 13, 14] [7, 8, 9, 10, 11, 12, 13, 14, 0, 1, 2, 3, 4, 5, 6, 15, 16, 17] (by decide) rfl (wt1 rfl rfl rfl rfl (nf rfl)) (x_call' rfl rfl cl11) (fun _ => choked_o sg9 (Co.mk n p l q ft) true A156 A155 (mayO (Co.mk n p l q ft) a1 a0 m) (mayQ (Co.mk n p l q ft) a1 a0 m) _ (H173.takes [8, 9, 10, 11, 12, 13, 14] (by decide))) (by decide) rfl rfl ?_)
     intro wq174 H176
     refine w_g (nf rfl) xm ?_
     refine w_g (nf rfl) xm ?_
     refine w_g (v := .bool false) (nf rfl) (x_not (b := true) rfl rfl) ?_
     refine l_of (s_callK H176 [1, 2, 3, 4, 5, 6, 7] [7, 0, 1, 2, 3, 4, 5, 6, 8, 9, 10, 11, 12, 13, 14, 15, 16, 17] (by decide) rfl (wt1 rfl rfl rfl rfl (nf rfl)) (x_call' rfl rfl cl11) (fun _ => choked_o sg14 (Co.mk n p l q ft) false A159 A160 (mayO (Co.mk n p l q ft) a1 a0 m) (mayQ (Co.mk n p l q ft) a1 a0 m) _ (H176.takes [1, 2, 3, 4, 5, 6, 7] (by decide))) (by decide) rfl rfl ?_)
     intro wq177 H179
     refine w_g (v := .bool (!(((mayO (Co.mk n p l q ft) a1 a0 m).ck) == ((mayO (Co.mk n p l q ft) a1 a0 m).ck)))) (nf rfl) (x_bin rfl rfl rfl (b_neN Try.underlying4 rfl)) ?_
     refine w_v (v := .bool (!(((mayO (Co.mk n p l q ft) a1 a0 m).ck) == ((mayO (Co.mk n p l q ft) a1 a0 m).ck)))) (x_pick_f rfl rfl (nf rfl) rfl) ?_
     refine w_m ?_
     refine w_g (neg_of (beq_self_eq_true ((mayO (Co.mk n p l q ft) a1 a0 m).ck))) xm ?_
     refine w_g (neg_of (beq_self_eq_true ((mayO (Co.mk n p l q ft) a1 a0 m).ck))) xm ?_
     refine l_of (s_callK H179 [8, 9, 10, 11, 12, 13, 14] [7, 8, 9, 10, 11, 12, 13, 14, 0, 1, 2, 3, 4, 5, 6, 15, 16, 17] (by decide) rfl (wt1 rfl rfl rfl rfl (neg_of (beq_self_eq_true ((mayO (Co.mk n p l q ft) a1 a0 m).ck)))) (x_call' rfl rfl cl12) (fun _ => wants_o sg9 (Co.mk n p l q ft) true A156 A155 (mayO (Co.mk n p l q ft) a1 a0 m) (mayQ (Co.mk n p l q ft) a1 a0 m) _ (H179.takes [8, 9, 10, 11, 12, 13, 14] (by decide))) (by decide) rfl rfl ?_)
     intro wq180 H182
     refine w_g (neg_of (beq_self_eq_true ((mayO (Co.mk n p l q ft) a1 a0 m).ck))) xm ?_
     refine w_g (neg_of (beq_self_eq_true ((mayO (Co.mk n p l q ft) a1 a0 m).ck))) xm ?_
     refine w_g (v := .bool false) (neg_of (beq_self_eq_true ((mayO (Co.mk n p l q ft) a1 a0 m).ck))) (x_not (b := true) rfl rfl) ?_
     refine l_of (s_callK H182 [1, 2, 3, 4, 5, 6, 7] [7, 0, 1, 2, 3, 4, 5, 6, 8, 9, 10, 11, 12, 13, 14, 15, 16, 17] (by decide) rfl (wt1 rfl rfl rfl rfl (neg_of (beq_self_eq_true ((mayO (Co.mk n p l q ft) a1 a0 m).ck)))) (x_call' rfl rfl cl12) (fun _ => wants_o sg14 (Co.mk n p l q ft) false A159 A160 (mayO (Co.mk n p l q ft) a1 a0 m) (mayQ (Co.mk n p l q ft) a1 a0 m) _ (H182.takes [1, 2, 3, 4, 5, 6, 7] (by decide))) (by decide) rfl rfl ?_)
     intro wq183 H185
     refine w_g (v := .bool (!(((mayO (Co.mk n p l q ft) a1 a0 m).wt) == ((mayO (Co.mk n p l q ft) a1 a0 m).wt)))) (neg_of (beq_self_eq_true ((mayO (Co.mk n p l q ft) a1 a0 m).ck))) (x_bin rfl rfl rfl (b_neN Try.underlying4 rfl)) ?_
     refine w_v (v := .bool (!(((mayO (Co.mk n p l q ft) a1 a0 m).wt) == ((mayO (Co.mk n p l q ft) a1 a0 m).wt)))) (x_pick_f rfl rfl (neg_of (beq_self_eq_true ((mayO (Co.mk n p l q ft) a1 a0 m).ck))) rfl) ?_
     refine w_m ?_
     refine w_g (neg_of (beq_self_eq_true ((mayO (Co.mk n p l q ft) a1 a0 m).wt))) xm ?_
     refine w_g (neg_of (beq_self_eq_true ((mayO (Co.mk n p l q ft) a1 a0 m).wt))) xm ?_
     refine l_of (s_callK H185 [8, 9, 10, 11, 12, 13, 14] [7, 8, 9, 10, 11, 12, 13, 14, 0, 1, 2, 3, 4, 5, 6, 15, 16, 17] (by decide) rfl (wt1 rfl rfl rfl rfl (neg_of (beq_self_eq_true ((mayO (Co.mk n p l q ft) a1 a0 m).wt)))) (x_call' rfl rfl cl13) (fun _ => begun_o sg9 (Co.mk n p l q ft) true A156 A155 (mayO (Co.mk n p l q ft) a1 a0 m) (mayQ (Co.mk n p l q ft) a1 a0 m) _ (H185.takes [8, 9, 10, 11, 12, 13, 14] (by decide))) (by decide) rfl rfl ?_)
     intro wq186 H188
     refine w_g (neg_of (beq_self_eq_true ((mayO (Co.mk n p l q ft) a1 a0 m).wt))) xm ?_
     refine w_g (neg_of (beq_self_eq_true ((mayO (Co.mk n p l q ft) a1 a0 m).wt))) xm ?_
     refine w_g (v := .bool false) (neg_of (beq_self_eq_true ((mayO (Co.mk n p l q ft) a1 a0 m).wt))) (x_not (b := true) rfl rfl) ?_
     refine l_of (s_callK H188 [1, 2, 3, 4, 5, 6, 7] [7, 0, 1, 2, 3, 4, 5, 6, 8, 9, 10, 11, 12, 13, 14, 15, 16, 17] (by decide) rfl (wt1 rfl rfl rfl rfl (neg_of (beq_self_eq_true ((mayO (Co.mk n p l q ft) a1 a0 m).wt)))) (x_call' rfl rfl cl13) (fun _ => begun_o sg14 (Co.mk n p l q ft) false A159 A160 (mayO (Co.mk n p l q ft) a1 a0 m) (mayQ (Co.mk n p l q ft) a1 a0 m) _ (H188.takes [1, 2, 3, 4, 5, 6, 7] (by decide))) (by decide) rfl rfl ?_)
     intro wq189 H191
     refine w_g (v := .bool (!(((mayO (Co.mk n p l q ft) a1 a0 m).bg) == ((mayO (Co.mk n p l q ft) a1 a0 m).bg)))) (neg_of (beq_self_eq_true ((mayO (Co.mk n p l q ft) a1 a0 m).wt))) (x_bin rfl rfl rfl (b_neN Try.underlying4 rfl)) ?_
     refine w_v (v := .bool (!(((mayO (Co.mk n p l q ft) a1 a0 m).bg) == ((mayO (Co.mk n p l q ft) a1 a0 m).bg)))) (x_pick_f rfl rfl (neg_of (beq_self_eq_true ((mayO (Co.mk n p l q ft) a1 a0 m).wt))) rfl) ?_
     refine w_m ?_
     refine w_g (neg_of (beq_self_eq_true ((mayO (Co.mk n p l q ft) a1 a0 m).bg))) xm ?_
     refine w_g (neg_of (beq_self_eq_true ((mayO (Co.mk n p l q ft) a1 a0 m).bg))) xm ?_
     refine l_of (s_call (wt1 rfl rfl rfl rfl (neg_of (beq_self_eq_true ((mayO (Co.mk n p l q ft) a1 a0 m).bg)))) (x_call' rfl rfl cl9) (waiting_o sg9 (Co.mk n p l q ft) true A156 A155 (mayO (Co.mk n p l q ft) a1 a0 m) (mayQ (Co.mk n p l q ft) a1 a0 m) (hw161.wok (by omega)).wa _ (H191.takes [8, 9, 10, 11, 12, 13, 14] (by decide))) ?_)
     rintro _ wq194 ⟨p192, c193, rfl, H195⟩
     replace H195 : S wq194 [Rw 49 3 p192 (mayO (Co.mk n p l q ft) a1 a0 m).wa.length c193 (chV (mayO (Co.mk n p l q ft) a1 a0 m).wa), sgI sg9 (Co.mk n p l q ft) true A156 A155 (mayO (Co.mk n p l q ft) a1 a0 m) (mayQ (Co.mk n p l q ft) a1 a0 m), alI A156 (mayO (Co.mk n p l q ft) a1 a0 m), waI A156 (mayO (Co.mk n p l q ft) a1 a0 m), goI A156 (mayO (Co.mk n p l q ft) a1 a0 m), alI A155 (mayQ (Co.mk n p l q ft) a1 a0 m), waI A155 (mayQ (Co.mk n p l q ft) a1 a0 m), goI A155 (mayQ (Co.mk n p l q ft) a1 a0 m), Ob g165 (.cells #[.bool true, .bool false] 4 (0, 0)), sgI sg14 (Co.mk n p l q ft) true A160 A159 (mayQ (Co.mk n p l q ft) a1 a0 m) (mayO (Co.mk n p l q ft) a1 a0 m), alI A159 (mayO (Co.mk n p l q ft) a1 a0 m), waI A159 (mayO (Co.mk n p l q ft) a1 a0 m), goI A159 (mayO (Co.mk n p l q ft) a1 a0 m), alI A160 (mayQ (Co.mk n p l q ft) a1 a0 m), waI A160 (mayQ (Co.mk n p l q ft) a1 a0 m), goI A160 (mayQ (Co.mk n p l q ft) a1 a0 m), Ob g148 (.cells #[.bool true, .int .i64 (m.kind), .int .i64 (m.i1), .int .i64 (m.i2), .int .i64 (m.i3), .int .i64 (m.i4), .int .i64 (m.i5), .string (m.root), .string (m.data)] 35 (0, 0)), Ob g1 (.cells #[.int .i64 n, .int .i64 p, .int .i64 l, .int .i64 q, .bool ft] 23 (0, 0)), Old w no] := by have h := H191.absorbI [8, 9, 10, 11, 12, 13, 14] H195; exact h
     refine b_ret rfl rfl ?_
     refine w_g (neg_of (beq_self_eq_true ((mayO (Co.mk n p l q ft) a1 a0 m).bg))) xm ?_
     refine w_g (neg_of (beq_self_eq_true ((mayO (Co.mk n p l q ft) a1 a0 m).bg))) xm ?_
     refine w_g (v := .bool false) (neg_of (beq_self_eq_true ((mayO (Co.mk n p l q ft) a1 a0 m).bg))) (x_not (b := true) rfl rfl) ?_
     refine l_of (s_call (wt1 rfl rfl rfl rfl (neg_of (beq_self_eq_true ((mayO (Co.mk n p l q ft) a1 a0 m).bg)))) (x_call' rfl rfl cl9) (waiting_o sg14 (Co.mk n p l q ft) false A159 A160 (mayO (Co.mk n p l q ft) a1 a0 m) (mayQ (Co.mk n p l q ft) a1 a0 m) (hw161.wok (by omega)).wa _ (H195.takes [9, 10, 11, 12, 13, 14, 15] (by decide))) ?_)
     rintro _ wq198 ⟨p196, c197, rfl, H199⟩
     replace H199 : S wq198 [Rw 49 3 p196 (mayO (Co.mk n p l q ft) a1 a0 m).wa.length c197 (chV (mayO (Co.mk n p l q ft) a1 a0 m).wa), sgI sg14 (Co.mk n p l q ft) true A160 A159 (mayQ (Co.mk n p l q ft) a1 a0 m) (mayO (Co.mk n p l q ft) a1 a0 m), alI A159 (mayO (Co.mk n p l q ft) a1 a0 m), waI A159 (mayO (Co.mk n p l q ft) a1 a0 m), goI A159 (mayO (Co.mk n p l q ft) a1 a0 m), alI A160 (mayQ (Co.mk n p l q ft) a1 a0 m), waI A160 (mayQ (Co.mk n p l q ft) a1 a0 m), goI A160 (mayQ (Co.mk n p l q ft) a1 a0 m), Rw 49 3 p192 (mayO (Co.mk n p l q ft) a1 a0 m).wa.length c193 (chV (mayO (Co.mk n p l q ft) a1 a0 m).wa), sgI sg9 (Co.mk n p l q ft) true A156 A155 (mayO (Co.mk n p l q ft) a1 a0 m) (mayQ (Co.mk n p l q ft) a1 a0 m), alI A156 (mayO (Co.mk n p l q ft) a1 a0 m), waI A156 (mayO (Co.mk n p l q ft) a1 a0 m), goI A156 (mayO (Co.mk n p l q ft) a1 a0 m), alI A155 (mayQ (Co.mk n p l q ft) a1 a0 m), waI A155 (mayQ (Co.mk n p l q ft) a1 a0 m), goI A155 (mayQ (Co.mk n p l q ft) a1 a0 m), Ob g165 (.cells #[.bool true, .bool false] 4 (0, 0)), Ob g148 (.cells #[.bool true, .int .i64 (m.kind), .int .i64 (m.i1), .int .i64 (m.i2), .int .i64 (m.i3), .int .i64 (m.i4), .int .i64 (m.i5), .string (m.root), .string (m.data)] 35 (0, 0)), Ob g1 (.cells #[.int .i64 n, .int .i64 p, .int .i64 l, .int .i64 q, .bool ft] 23 (0, 0)), Old w no] := by have h := H195.absorbI [9, 10, 11, 12, 13, 14, 15] H199; exact h
     refine b_ret rfl rfl ?_
     refine l_of (s_call0 H199 (wt1 rfl rfl rfl rfl (neg_of (beq_self_eq_true ((mayO (Co.mk n p l q ft) a1 a0 m).bg)))) (x_call' rfl rfl cl14) (choices_s (mayO (Co.mk n p l q ft) a1 a0 m).wa p192 p196 c193 c197 (hw161.wok (by omega)).wa _ (H199.rwReads (k := 8) rfl) (H199.rwReads (k := 0) rfl)) rfl rfl ?_)
     intro wq200 H201
     refine w_g (v := .bool false) (neg_of (beq_self_eq_true ((mayO (Co.mk n p l q ft) a1 a0 m).bg))) (x_not (b := true) rfl rfl) ?_
     refine w_v (v := .bool false) (x_pick_f rfl rfl (neg_of (beq_self_eq_true ((mayO (Co.mk n p l q ft) a1 a0 m).bg))) rfl) ?_
     refine w_m ?_
     refine w_g rfl xm ?_
     refine w_g rfl xm ?_
     refine l_of (s_call (wt1 rfl rfl rfl rfl rfl) (x_call' rfl rfl cl15) (owed_o sg9 (Co.mk n p l q ft) true A156 A155 (mayO (Co.mk n p l q ft) a1 a0 m) (mayQ (Co.mk n p l q ft) a1 a0 m) (hw161.wok (by omega)).al (hw161.wok (by omega)).wa hw161.ok _ (H201.takes [9, 10, 11, 12, 13, 14, 15] (by decide))) ?_)
     rintro _ wq204 ⟨p202, c203, rfl, H205⟩
     replace H205 : S wq204 [Rw 49 3 p202 (owedS (mayO (Co.mk n p l q ft) a1 a0 m)).length c203 (chV (owedS (mayO (Co.mk n p l q ft) a1 a0 m))), sgI sg9 (Co.mk n p l q ft) true A156 A155 (mayO (Co.mk n p l q ft) a1 a0 m) (mayQ (Co.mk n p l q ft) a1 a0 m), alI A156 (mayO (Co.mk n p l q ft) a1 a0 m), waI A156 (mayO (Co.mk n p l q ft) a1 a0 m), goI A156 (mayO (Co.mk n p l q ft) a1 a0 m), alI A155 (mayQ (Co.mk n p l q ft) a1 a0 m), waI A155 (mayQ (Co.mk n p l q ft) a1 a0 m), goI A155 (mayQ (Co.mk n p l q ft) a1 a0 m), Rw 49 3 p196 (mayO (Co.mk n p l q ft) a1 a0 m).wa.length c197 (chV (mayO (Co.mk n p l q ft) a1 a0 m).wa), sgI sg14 (Co.mk n p l q ft) true A160 A159 (mayQ (Co.mk n p l q ft) a1 a0 m) (mayO (Co.mk n p l q ft) a1 a0 m), alI A159 (mayO (Co.mk n p l q ft) a1 a0 m), waI A159 (mayO (Co.mk n p l q ft) a1 a0 m), goI A159 (mayO (Co.mk n p l q ft) a1 a0 m), alI A160 (mayQ (Co.mk n p l q ft) a1 a0 m), waI A160 (mayQ (Co.mk n p l q ft) a1 a0 m), goI A160 (mayQ (Co.mk n p l q ft) a1 a0 m), Rw 49 3 p192 (mayO (Co.mk n p l q ft) a1 a0 m).wa.length c193 (chV (mayO (Co.mk n p l q ft) a1 a0 m).wa), Ob g165 (.cells #[.bool true, .bool false] 4 (0, 0)), Ob g148 (.cells #[.bool true, .int .i64 (m.kind), .int .i64 (m.i1), .int .i64 (m.i2), .int .i64 (m.i3), .int .i64 (m.i4), .int .i64 (m.i5), .string (m.root), .string (m.data)] 35 (0, 0)), Ob g1 (.cells #[.int .i64 n, .int .i64 p, .int .i64 l, .int .i64 q, .bool ft] 23 (0, 0)), Old w no] := by have h := H201.absorbI [9, 10, 11, 12, 13, 14, 15] H205; exact h
     refine b_ret rfl rfl ?_
     refine w_g rfl xm ?_
     refine w_g rfl xm ?_
     refine w_g (v := .bool false) rfl (x_not (b := true) rfl rfl) ?_
     refine l_of (s_call (wt1 rfl rfl rfl rfl rfl) (x_call' rfl rfl cl15) (owed_o sg14 (Co.mk n p l q ft) false A159 A160 (mayO (Co.mk n p l q ft) a1 a0 m) (mayQ (Co.mk n p l q ft) a1 a0 m) (hw161.wok (by omega)).al (hw161.wok (by omega)).wa hw161.ok _ (H205.takes [9, 10, 11, 12, 13, 14, 15] (by decide))) ?_)
     rintro _ wq208 ⟨p206, c207, rfl, H209⟩
     replace H209 : S wq208 [Rw 49 3 p206 (owedS (mayO (Co.mk n p l q ft) a1 a0 m)).length c207 (chV (owedS (mayO (Co.mk n p l q ft) a1 a0 m))), sgI sg14 (Co.mk n p l q ft) true A160 A159 (mayQ (Co.mk n p l q ft) a1 a0 m) (mayO (Co.mk n p l q ft) a1 a0 m), alI A159 (mayO (Co.mk n p l q ft) a1 a0 m), waI A159 (mayO (Co.mk n p l q ft) a1 a0 m), goI A159 (mayO (Co.mk n p l q ft) a1 a0 m), alI A160 (mayQ (Co.mk n p l q ft) a1 a0 m), waI A160 (mayQ (Co.mk n p l q ft) a1 a0 m), goI A160 (mayQ (Co.mk n p l q ft) a1 a0 m), Rw 49 3 p202 (owedS (mayO (Co.mk n p l q ft) a1 a0 m)).length c203 (chV (owedS (mayO (Co.mk n p l q ft) a1 a0 m))), sgI sg9 (Co.mk n p l q ft) true A156 A155 (mayO (Co.mk n p l q ft) a1 a0 m) (mayQ (Co.mk n p l q ft) a1 a0 m), alI A156 (mayO (Co.mk n p l q ft) a1 a0 m), waI A156 (mayO (Co.mk n p l q ft) a1 a0 m), goI A156 (mayO (Co.mk n p l q ft) a1 a0 m), alI A155 (mayQ (Co.mk n p l q ft) a1 a0 m), waI A155 (mayQ (Co.mk n p l q ft) a1 a0 m), goI A155 (mayQ (Co.mk n p l q ft) a1 a0 m), Rw 49 3 p196 (mayO (Co.mk n p l q ft) a1 a0 m).wa.length c197 (chV (mayO (Co.mk n p l q ft) a1 a0 m).wa), Rw 49 3 p192 (mayO (Co.mk n p l q ft) a1 a0 m).wa.length c193 (chV (mayO (Co.mk n p l q ft) a1 a0 m).wa), Ob g165 (.cells #[.bool true, .bool false] 4 (0, 0)), Ob g148 (.cells #[.bool true, .int .i64 (m.kind), .int .i64 (m.i1), .int .i64 (m.i2), .int .i64 (m.i3), .int .i64 (m.i4), .int .i64 (m.i5), .string (m.root), .string (m.data)] 35 (0, 0)), Ob g1 (.cells #[.int .i64 n, .int .i64 p, .int .i64 l, .int .i64 q, .bool ft] 23 (0, 0)), Old w no] := by have h := H205.absorbI [9, 10, 11, 12, 13, 14, 15] H209; exact h
     refine b_ret rfl rfl ?_
     refine l_of (s_call0 H209 (wt1 rfl rfl rfl rfl rfl) (x_call' rfl rfl cl14) (choices_s (owedS (mayO (Co.mk n p l q ft) a1 a0 m)) p202 p206 c203 c207 (owed_le (hw161.wok (by omega)).wa) _ (H209.rwReads (k := 8) rfl) (H209.rwReads (k := 0) rfl)) rfl rfl ?_)
     intro wq210 H211
     refine w_g (v := .bool false) rfl (x_not (b := true) rfl rfl) ?_
     refine w_v (v := .bool false) (x_pick_f rfl rfl rfl rfl) ?_
     refine w_m ?_
     refine w_g rfl xm ?_
     refine w_g rfl xm ?_
     refine l_of (s_call (wt1 rfl rfl rfl rfl rfl) (x_call' rfl rfl cl17) (allowed_o sg9 (Co.mk n p l q ft) true A156 A155 (mayO (Co.mk n p l q ft) a1 a0 m) (mayQ (Co.mk n p l q ft) a1 a0 m) (hw161.wok (by omega)).al _ (H211.takes [9, 10, 11, 12, 13, 14, 15] (by decide))) ?_)
     rintro _ wq214 ⟨p212, c213, rfl, H215⟩
     replace H215 : S wq214 [Rw 3 1 p212 (mayO (Co.mk n p l q ft) a1 a0 m).al.length c213 (zV (mayO (Co.mk n p l q ft) a1 a0 m).al), sgI sg9 (Co.mk n p l q ft) true A156 A155 (mayO (Co.mk n p l q ft) a1 a0 m) (mayQ (Co.mk n p l q ft) a1 a0 m), alI A156 (mayO (Co.mk n p l q ft) a1 a0 m), waI A156 (mayO (Co.mk n p l q ft) a1 a0 m), goI A156 (mayO (Co.mk n p l q ft) a1 a0 m), alI A155 (mayQ (Co.mk n p l q ft) a1 a0 m), waI A155 (mayQ (Co.mk n p l q ft) a1 a0 m), goI A155 (mayQ (Co.mk n p l q ft) a1 a0 m), Rw 49 3 p206 (owedS (mayO (Co.mk n p l q ft) a1 a0 m)).length c207 (chV (owedS (mayO (Co.mk n p l q ft) a1 a0 m))), sgI sg14 (Co.mk n p l q ft) true A160 A159 (mayQ (Co.mk n p l q ft) a1 a0 m) (mayO (Co.mk n p l q ft) a1 a0 m), alI A159 (mayO (Co.mk n p l q ft) a1 a0 m), waI A159 (mayO (Co.mk n p l q ft) a1 a0 m), goI A159 (mayO (Co.mk n p l q ft) a1 a0 m), alI A160 (mayQ (Co.mk n p l q ft) a1 a0 m), waI A160 (mayQ (Co.mk n p l q ft) a1 a0 m), goI A160 (mayQ (Co.mk n p l q ft) a1 a0 m), Rw 49 3 p202 (owedS (mayO (Co.mk n p l q ft) a1 a0 m)).length c203 (chV (owedS (mayO (Co.mk n p l q ft) a1 a0 m))), Rw 49 3 p196 (mayO (Co.mk n p l q ft) a1 a0 m).wa.length c197 (chV (mayO (Co.mk n p l q ft) a1 a0 m).wa), Rw 49 3 p192 (mayO (Co.mk n p l q ft) a1 a0 m).wa.length c193 (chV (mayO (Co.mk n p l q ft) a1 a0 m).wa), Ob g165 (.cells #[.bool true, .bool false] 4 (0, 0)), Ob g148 (.cells #[.bool true, .int .i64 (m.kind), .int .i64 (m.i1), .int .i64 (m.i2), .int .i64 (m.i3), .int .i64 (m.i4), .int .i64 (m.i5), .string (m.root), .string (m.data)] 35 (0, 0)), Ob g1 (.cells #[.int .i64 n, .int .i64 p, .int .i64 l, .int .i64 q, .bool ft] 23 (0, 0)), Old w no] := by have h := H211.absorbI [9, 10, 11, 12, 13, 14, 15] H215; exact h
     refine b_ret rfl rfl ?_
     refine w_g rfl xm ?_
     refine w_g rfl xm ?_
     refine w_g (v := .bool false) rfl (x_not (b := true) rfl rfl) ?_
     refine l_of (s_call (wt1 rfl rfl rfl rfl rfl) (x_call' rfl rfl cl17) (allowed_o sg14 (Co.mk n p l q ft) false A159 A160 (mayO (Co.mk n p l q ft) a1 a0 m) (mayQ (Co.mk n p l q ft) a1 a0 m) (hw161.wok (by omega)).al _ (H215.takes [9, 10, 11, 12, 13, 14, 15] (by decide))) ?_)
     rintro _ wq218 ⟨p216, c217, rfl, H219⟩
     replace H219 : S wq218 [Rw 3 1 p216 (mayO (Co.mk n p l q ft) a1 a0 m).al.length c217 (zV (mayO (Co.mk n p l q ft) a1 a0 m).al), sgI sg14 (Co.mk n p l q ft) true A160 A159 (mayQ (Co.mk n p l q ft) a1 a0 m) (mayO (Co.mk n p l q ft) a1 a0 m), alI A159 (mayO (Co.mk n p l q ft) a1 a0 m), waI A159 (mayO (Co.mk n p l q ft) a1 a0 m), goI A159 (mayO (Co.mk n p l q ft) a1 a0 m), alI A160 (mayQ (Co.mk n p l q ft) a1 a0 m), waI A160 (mayQ (Co.mk n p l q ft) a1 a0 m), goI A160 (mayQ (Co.mk n p l q ft) a1 a0 m), Rw 3 1 p212 (mayO (Co.mk n p l q ft) a1 a0 m).al.length c213 (zV (mayO (Co.mk n p l q ft) a1 a0 m).al), sgI sg9 (Co.mk n p l q ft) true A156 A155 (mayO (Co.mk n p l q ft) a1 a0 m) (mayQ (Co.mk n p l q ft) a1 a0 m), alI A156 (mayO (Co.mk n p l q ft) a1 a0 m), waI A156 (mayO (Co.mk n p l q ft) a1 a0 m), goI A156 (mayO (Co.mk n p l q ft) a1 a0 m), alI A155 (mayQ (Co.mk n p l q ft) a1 a0 m), waI A155 (mayQ (Co.mk n p l q ft) a1 a0 m), goI A155 (mayQ (Co.mk n p l q ft) a1 a0 m), Rw 49 3 p206 (owedS (mayO (Co.mk n p l q ft) a1 a0 m)).length c207 (chV (owedS (mayO (Co.mk n p l q ft) a1 a0 m))), Rw 49 3 p202 (owedS (mayO (Co.mk n p l q ft) a1 a0 m)).length c203 (chV (owedS (mayO (Co.mk n p l q ft) a1 a0 m))), Rw 49 3 p196 (mayO (Co.mk n p l q ft) a1 a0 m).wa.length c197 (chV (mayO (Co.mk n p l q ft) a1 a0 m).wa), Rw 49 3 p192 (mayO (Co.mk n p l q ft) a1 a0 m).wa.length c193 (chV (mayO (Co.mk n p l q ft) a1 a0 m).wa), Ob g165 (.cells #[.bool true, .bool false] 4 (0, 0)), Ob g148 (.cells #[.bool true, .int .i64 (m.kind), .int .i64 (m.i1), .int .i64 (m.i2), .int .i64 (m.i3), .int .i64 (m.i4), .int .i64 (m.i5), .string (m.root), .string (m.data)] 35 (0, 0)), Ob g1 (.cells #[.int .i64 n, .int .i64 p, .int .i64 l, .int .i64 q, .bool ft] 23 (0, 0)), Old w no] := by have h := H215.absorbI [9, 10, 11, 12, 13, 14, 15] H219; exact h
     refine b_ret rfl rfl ?_
     refine l_of (s_call0 H219 (wt1 rfl rfl rfl rfl rfl) (x_call' rfl rfl cl16) (ints_s (mayO (Co.mk n p l q ft) a1 a0 m).al p212 p216 c213 c217 (hw161.wok (by omega)).al _ (H219.rwReads (k := 8) rfl) (H219.rwReads (k := 0) rfl)) rfl rfl ?_)
     intro wq220 H221
     refine w_g (v := .bool false) rfl (x_not (b := true) rfl rfl) ?_
     refine w_v (v := .bool false) (x_pick_f rfl rfl rfl rfl) ?_
     refine w_e ?_
     refine g_weak [(5, .pointer (some ⟨sg9, 0, none⟩)), (7, .pointer (some ⟨sg14, 0, none⟩)), (58, .slice pl ls.length cl), (59, .int .i64 ((ls.length : Int))), (60, .int .i64 ((k : Int))), (78, .slice (some ⟨g165, 0, none⟩) (2) (2)), (79, .int .i64 2), (80, .int .i64 0), (154, .bool false)] ⟨rfl, rfl, rfl, rfl, rfl, rfl, rfl, rfl, rfl, trivial⟩ ?_
     refine g_cond_f rfl rfl ?_
     refine g_skip ?_
     refine g_in ?_
     refine g_then ?_
     refine g_region ?_
     refine w_b (v := .int .i64 1) (hb := (b_add (r := 1) (by decide))) ?_
     refine w_m ?_
     refine w_e ?_
     refine g_roundU ?_
     refine w_s ?_
     refine w_b ?_
     refine w_e ?_
     refine g_seq ?_
     refine g_cond_t rfl (by decide) ?_
     refine g_skip ?_
     refine g_then ?_
     refine g_seq ?_
     refine g_block ?_
     refine w_s ?_
     refine w_v (v := .pointer (some ⟨g165, 1, none⟩)) (x_indexAddr 1 rfl rfl rfl Try.underlying40 sz4 (by omega) (off' := 1) rfl) ?_
     refine w_1 H221 20 ?_
     refine w_a ?_
     refine w_e ?_
     refine w_s ?_
     refine w_r2 ?_
     refine l_of (s_callK H221 [9, 13, 14, 15, 10, 11, 12] [7, 8, 9, 10, 11, 12, 13, 14, 15, 0, 4, 5, 6, 1, 2, 3, 16, 17, 18, 19, 20, 21, 22, 23] (by decide) rfl (wt0 rfl) (x_call' rfl rfl cl10) (fun _ => field_o sg9 (Co.mk n p l q ft) false A155 A156 (mayQ (Co.mk n p l q ft) a1 a0 m) (mayO (Co.mk n p l q ft) a1 a0 m) _ (H221.takes [9, 13, 14, 15, 10, 11, 12] (by decide))) (by decide) rfl rfl ?_)
     intro wq222 H224
     refine w_r2 ?_
     refine w_v (v := .bool true) (x_not (b := false) rfl rfl) ?_
     refine l_of (s_callK H224 [1, 5, 6, 7, 2, 3, 4] [7, 0, 4, 5, 6, 1, 2, 3, 8, 9, 10, 11, 12, 13, 14, 15, 16, 17, 18, 19, 20, 21, 22, 23] (by decide) rfl (wt0 rfl) (x_call' rfl rfl cl10) (fun _ => field_o sg14 (Co.mk n p l q ft) true A160 A159 (mayQ (Co.mk n p l q ft) a1 a0 m) (mayO (Co.mk n p l q ft) a1 a0 m) _ (H224.takes [1, 5, 6, 7, 2, 3, 4] (by decide))) (by decide) rfl rfl ?_)
     intro wq225 H227
     refine w_b (v := .bool (!decide ((mayQ (Co.mk n p l q ft) a1 a0 m).fd = (mayQ (Co.mk n p l q ft) a1 a0 m).fd))) (hb := b_nes) ?_
     refine w_m ?_
     refine w_g (nf rfl) xm ?_
     refine w_g (nf rfl) xm ?_
     refine l_of (s_callK H227 [9, 13, 14, 15, 10, 11, 12] [7, 8, 9, 10, 11, 12, 13, 14, 15, 0, 4, 5, 6, 1, 2, 3, 16, 17, 18, 19, 20, 21, 22, 23] (by decide) rfl (wt1 rfl rfl rfl rfl (nf rfl)) (x_call' rfl rfl cl11) (fun _ => choked_o sg9 (Co.mk n p l q ft) false A155 A156 (mayQ (Co.mk n p l q ft) a1 a0 m) (mayO (Co.mk n p l q ft) a1 a0 m) _ (H227.takes [9, 13, 14, 15, 10, 11, 12] (by decide))) (by decide) rfl rfl ?_)
     intro wq228 H230
     refine w_g (nf rfl) xm ?_
     refine w_g (nf rfl) xm ?_
     refine w_g (v := .bool true) (nf rfl) (x_not (b := false) rfl rfl) ?_
     refine l_of (s_callK H230 [1, 5, 6, 7, 2, 3, 4] [7, 0, 4, 5, 6, 1, 2, 3, 8, 9, 10, 11, 12, 13, 14, 15, 16, 17, 18, 19, 20, 21, 22, 23] (by decide) rfl (wt1 rfl rfl rfl rfl (nf rfl)) (x_call' rfl rfl cl11) (fun _ => choked_o sg14 (Co.mk n p l q ft) true A160 A159 (mayQ (Co.mk n p l q ft) a1 a0 m) (mayO (Co.mk n p l q ft) a1 a0 m) _ (H230.takes [1, 5, 6, 7, 2, 3, 4] (by decide))) (by decide) rfl rfl ?_)
     intro wq231 H233
     refine w_g (v := .bool (!(((mayQ (Co.mk n p l q ft) a1 a0 m).ck) == ((mayQ (Co.mk n p l q ft) a1 a0 m).ck)))) (nf rfl) (x_bin rfl rfl rfl (b_neN Try.underlying4 rfl)) ?_
     refine w_v (v := .bool (!(((mayQ (Co.mk n p l q ft) a1 a0 m).ck) == ((mayQ (Co.mk n p l q ft) a1 a0 m).ck)))) (x_pick_f rfl rfl (nf rfl) rfl) ?_
     refine w_m ?_
     refine w_g (neg_of (beq_self_eq_true ((mayQ (Co.mk n p l q ft) a1 a0 m).ck))) xm ?_
     refine w_g (neg_of (beq_self_eq_true ((mayQ (Co.mk n p l q ft) a1 a0 m).ck))) xm ?_
     refine l_of (s_callK H233 [9, 13, 14, 15, 10, 11, 12] [7, 8, 9, 10, 11, 12, 13, 14, 15, 0, 4, 5, 6, 1, 2, 3, 16, 17, 18, 19, 20, 21, 22, 23] (by decide) rfl (wt1 rfl rfl rfl rfl (neg_of (beq_self_eq_true ((mayQ (Co.mk n p l q ft) a1 a0 m).ck)))) (x_call' rfl rfl cl12) (fun _ => wants_o sg9 (Co.mk n p l q ft) false A155 A156 (mayQ (Co.mk n p l q ft) a1 a0 m) (mayO (Co.mk n p l q ft) a1 a0 m) _ (H233.takes [9, 13, 14, 15, 10, 11, 12] (by decide))) (by decide) rfl rfl ?_)
     intro wq234 H236
     refine w_g (neg_of (beq_self_eq_true ((mayQ (Co.mk n p l q ft) a1 a0 m).ck))) xm ?_
     refine w_g (neg_of (beq_self_eq_true ((mayQ (Co.mk n p l q ft) a1 a0 m).ck))) xm ?_
     refine w_g (v := .bool true) (neg_of (beq_self_eq_true ((mayQ (Co.mk n p l q ft) a1 a0 m).ck))) (x_not (b := false) rfl rfl) ?_
     refine l_of (s_callK H236 [1, 5, 6, 7, 2, 3, 4] [7, 0, 4, 5, 6, 1, 2, 3, 8, 9, 10, 11, 12, 13, 14, 15, 16, 17, 18, 19, 20, 21, 22, 23] (by decide) rfl (wt1 rfl rfl rfl rfl (neg_of (beq_self_eq_true ((mayQ (Co.mk n p l q ft) a1 a0 m).ck)))) (x_call' rfl rfl cl12) (fun _ => wants_o sg14 (Co.mk n p l q ft) true A160 A159 (mayQ (Co.mk n p l q ft) a1 a0 m) (mayO (Co.mk n p l q ft) a1 a0 m) _ (H236.takes [1, 5, 6, 7, 2, 3, 4] (by decide))) (by decide) rfl rfl ?_)
     intro wq237 H239
     refine w_g (v := .bool (!(((mayQ (Co.mk n p l q ft) a1 a0 m).wt) == ((mayQ (Co.mk n p l q ft) a1 a0 m).wt)))) (neg_of (beq_self_eq_true ((mayQ (Co.mk n p l q ft) a1 a0 m).ck))) (x_bin rfl rfl rfl (b_neN Try.underlying4 rfl)) ?_
     refine w_v (v := .bool (!(((mayQ (Co.mk n p l q ft) a1 a0 m).wt) == ((mayQ (Co.mk n p l q ft) a1 a0 m).wt)))) (x_pick_f rfl rfl (neg_of (beq_self_eq_true ((mayQ (Co.mk n p l q ft) a1 a0 m).ck))) rfl) ?_
     refine w_m ?_
     refine w_g (neg_of (beq_self_eq_true ((mayQ (Co.mk n p l q ft) a1 a0 m).wt))) xm ?_
     refine w_g (neg_of (beq_self_eq_true ((mayQ (Co.mk n p l q ft) a1 a0 m).wt))) xm ?_
     refine l_of (s_callK H239 [9, 13, 14, 15, 10, 11, 12] [7, 8, 9, 10, 11, 12, 13, 14, 15, 0, 4, 5, 6, 1, 2, 3, 16, 17, 18, 19, 20, 21, 22, 23] (by decide) rfl (wt1 rfl rfl rfl rfl (neg_of (beq_self_eq_true ((mayQ (Co.mk n p l q ft) a1 a0 m).wt)))) (x_call' rfl rfl cl13) (fun _ => begun_o sg9 (Co.mk n p l q ft) false A155 A156 (mayQ (Co.mk n p l q ft) a1 a0 m) (mayO (Co.mk n p l q ft) a1 a0 m) _ (H239.takes [9, 13, 14, 15, 10, 11, 12] (by decide))) (by decide) rfl rfl ?_)
     intro wq240 H242
     refine w_g (neg_of (beq_self_eq_true ((mayQ (Co.mk n p l q ft) a1 a0 m).wt))) xm ?_
     refine w_g (neg_of (beq_self_eq_true ((mayQ (Co.mk n p l q ft) a1 a0 m).wt))) xm ?_
     refine w_g (v := .bool true) (neg_of (beq_self_eq_true ((mayQ (Co.mk n p l q ft) a1 a0 m).wt))) (x_not (b := false) rfl rfl) ?_
     refine l_of (s_callK H242 [1, 5, 6, 7, 2, 3, 4] [7, 0, 4, 5, 6, 1, 2, 3, 8, 9, 10, 11, 12, 13, 14, 15, 16, 17, 18, 19, 20, 21, 22, 23] (by decide) rfl (wt1 rfl rfl rfl rfl (neg_of (beq_self_eq_true ((mayQ (Co.mk n p l q ft) a1 a0 m).wt)))) (x_call' rfl rfl cl13) (fun _ => begun_o sg14 (Co.mk n p l q ft) true A160 A159 (mayQ (Co.mk n p l q ft) a1 a0 m) (mayO (Co.mk n p l q ft) a1 a0 m) _ (H242.takes [1, 5, 6, 7, 2, 3, 4] (by decide))) (by decide) rfl rfl ?_)
     intro wq243 H245
     refine w_g (v := .bool (!(((mayQ (Co.mk n p l q ft) a1 a0 m).bg) == ((mayQ (Co.mk n p l q ft) a1 a0 m).bg)))) (neg_of (beq_self_eq_true ((mayQ (Co.mk n p l q ft) a1 a0 m).wt))) (x_bin rfl rfl rfl (b_neN Try.underlying4 rfl)) ?_
     refine w_v (v := .bool (!(((mayQ (Co.mk n p l q ft) a1 a0 m).bg) == ((mayQ (Co.mk n p l q ft) a1 a0 m).bg)))) (x_pick_f rfl rfl (neg_of (beq_self_eq_true ((mayQ (Co.mk n p l q ft) a1 a0 m).wt))) rfl) ?_
     refine w_m ?_
     refine w_g (neg_of (beq_self_eq_true ((mayQ (Co.mk n p l q ft) a1 a0 m).bg))) xm ?_
     refine w_g (neg_of (beq_self_eq_true ((mayQ (Co.mk n p l q ft) a1 a0 m).bg))) xm ?_
     refine l_of (s_call (wt1 rfl rfl rfl rfl (neg_of (beq_self_eq_true ((mayQ (Co.mk n p l q ft) a1 a0 m).bg)))) (x_call' rfl rfl cl9) (waiting_o sg9 (Co.mk n p l q ft) false A155 A156 (mayQ (Co.mk n p l q ft) a1 a0 m) (mayO (Co.mk n p l q ft) a1 a0 m) (hw162.wok (by omega)).wa _ (H245.takes [9, 13, 14, 15, 10, 11, 12] (by decide))) ?_)
     rintro _ wq248 ⟨p246, c247, rfl, H249⟩
     replace H249 : S wq248 [Rw 49 3 p246 (mayQ (Co.mk n p l q ft) a1 a0 m).wa.length c247 (chV (mayQ (Co.mk n p l q ft) a1 a0 m).wa), sgI sg9 (Co.mk n p l q ft) true A156 A155 (mayO (Co.mk n p l q ft) a1 a0 m) (mayQ (Co.mk n p l q ft) a1 a0 m), alI A155 (mayQ (Co.mk n p l q ft) a1 a0 m), waI A155 (mayQ (Co.mk n p l q ft) a1 a0 m), goI A155 (mayQ (Co.mk n p l q ft) a1 a0 m), alI A156 (mayO (Co.mk n p l q ft) a1 a0 m), waI A156 (mayO (Co.mk n p l q ft) a1 a0 m), goI A156 (mayO (Co.mk n p l q ft) a1 a0 m), Rw 3 1 p216 (mayO (Co.mk n p l q ft) a1 a0 m).al.length c217 (zV (mayO (Co.mk n p l q ft) a1 a0 m).al), sgI sg14 (Co.mk n p l q ft) true A160 A159 (mayQ (Co.mk n p l q ft) a1 a0 m) (mayO (Co.mk n p l q ft) a1 a0 m), alI A159 (mayO (Co.mk n p l q ft) a1 a0 m), waI A159 (mayO (Co.mk n p l q ft) a1 a0 m), goI A159 (mayO (Co.mk n p l q ft) a1 a0 m), alI A160 (mayQ (Co.mk n p l q ft) a1 a0 m), waI A160 (mayQ (Co.mk n p l q ft) a1 a0 m), goI A160 (mayQ (Co.mk n p l q ft) a1 a0 m), Rw 3 1 p212 (mayO (Co.mk n p l q ft) a1 a0 m).al.length c213 (zV (mayO (Co.mk n p l q ft) a1 a0 m).al), Rw 49 3 p206 (owedS (mayO (Co.mk n p l q ft) a1 a0 m)).length c207 (chV (owedS (mayO (Co.mk n p l q ft) a1 a0 m))), Rw 49 3 p202 (owedS (mayO (Co.mk n p l q ft) a1 a0 m)).length c203 (chV (owedS (mayO (Co.mk n p l q ft) a1 a0 m))), Rw 49 3 p196 (mayO (Co.mk n p l q ft) a1 a0 m).wa.length c197 (chV (mayO (Co.mk n p l q ft) a1 a0 m).wa), Rw 49 3 p192 (mayO (Co.mk n p l q ft) a1 a0 m).wa.length c193 (chV (mayO (Co.mk n p l q ft) a1 a0 m).wa), Ob g165 (.cells #[.bool true, .bool false] 4 (0, 0)), Ob g148 (.cells #[.bool true, .int .i64 (m.kind), .int .i64 (m.i1), .int .i64 (m.i2), .int .i64 (m.i3), .int .i64 (m.i4), .int .i64 (m.i5), .string (m.root), .string (m.data)] 35 (0, 0)), Ob g1 (.cells #[.int .i64 n, .int .i64 p, .int .i64 l, .int .i64 q, .bool ft] 23 (0, 0)), Old w no] := by have h := H245.absorbI [9, 13, 14, 15, 10, 11, 12] H249; exact h
     refine b_ret rfl rfl ?_
     refine w_g (neg_of (beq_self_eq_true ((mayQ (Co.mk n p l q ft) a1 a0 m).bg))) xm ?_
     refine w_g (neg_of (beq_self_eq_true ((mayQ (Co.mk n p l q ft) a1 a0 m).bg))) xm ?_
     refine w_g (v := .bool true) (neg_of (beq_self_eq_true ((mayQ (Co.mk n p l q ft) a1 a0 m).bg))) (x_not (b := false) rfl rfl) ?_
     refine l_of (s_call (wt1 rfl rfl rfl rfl (neg_of (beq_self_eq_true ((mayQ (Co.mk n p l q ft) a1 a0 m).bg)))) (x_call' rfl rfl cl9) (waiting_o sg14 (Co.mk n p l q ft) true A160 A159 (mayQ (Co.mk n p l q ft) a1 a0 m) (mayO (Co.mk n p l q ft) a1 a0 m) (hw162.wok (by omega)).wa _ (H249.takes [9, 13, 14, 15, 10, 11, 12] (by decide))) ?_)
     rintro _ wq252 ⟨p250, c251, rfl, H253⟩
     replace H253 : S wq252 [Rw 49 3 p250 (mayQ (Co.mk n p l q ft) a1 a0 m).wa.length c251 (chV (mayQ (Co.mk n p l q ft) a1 a0 m).wa), sgI sg14 (Co.mk n p l q ft) true A160 A159 (mayQ (Co.mk n p l q ft) a1 a0 m) (mayO (Co.mk n p l q ft) a1 a0 m), alI A160 (mayQ (Co.mk n p l q ft) a1 a0 m), waI A160 (mayQ (Co.mk n p l q ft) a1 a0 m), goI A160 (mayQ (Co.mk n p l q ft) a1 a0 m), alI A159 (mayO (Co.mk n p l q ft) a1 a0 m), waI A159 (mayO (Co.mk n p l q ft) a1 a0 m), goI A159 (mayO (Co.mk n p l q ft) a1 a0 m), Rw 49 3 p246 (mayQ (Co.mk n p l q ft) a1 a0 m).wa.length c247 (chV (mayQ (Co.mk n p l q ft) a1 a0 m).wa), sgI sg9 (Co.mk n p l q ft) true A156 A155 (mayO (Co.mk n p l q ft) a1 a0 m) (mayQ (Co.mk n p l q ft) a1 a0 m), alI A155 (mayQ (Co.mk n p l q ft) a1 a0 m), waI A155 (mayQ (Co.mk n p l q ft) a1 a0 m), goI A155 (mayQ (Co.mk n p l q ft) a1 a0 m), alI A156 (mayO (Co.mk n p l q ft) a1 a0 m), waI A156 (mayO (Co.mk n p l q ft) a1 a0 m), goI A156 (mayO (Co.mk n p l q ft) a1 a0 m), Rw 3 1 p216 (mayO (Co.mk n p l q ft) a1 a0 m).al.length c217 (zV (mayO (Co.mk n p l q ft) a1 a0 m).al), Rw 3 1 p212 (mayO (Co.mk n p l q ft) a1 a0 m).al.length c213 (zV (mayO (Co.mk n p l q ft) a1 a0 m).al), Rw 49 3 p206 (owedS (mayO (Co.mk n p l q ft) a1 a0 m)).length c207 (chV (owedS (mayO (Co.mk n p l q ft) a1 a0 m))), Rw 49 3 p202 (owedS (mayO (Co.mk n p l q ft) a1 a0 m)).length c203 (chV (owedS (mayO (Co.mk n p l q ft) a1 a0 m))), Rw 49 3 p196 (mayO (Co.mk n p l q ft) a1 a0 m).wa.length c197 (chV (mayO (Co.mk n p l q ft) a1 a0 m).wa), Rw 49 3 p192 (mayO (Co.mk n p l q ft) a1 a0 m).wa.length c193 (chV (mayO (Co.mk n p l q ft) a1 a0 m).wa), Ob g165 (.cells #[.bool true, .bool false] 4 (0, 0)), Ob g148 (.cells #[.bool true, .int .i64 (m.kind), .int .i64 (m.i1), .int .i64 (m.i2), .int .i64 (m.i3), .int .i64 (m.i4), .int .i64 (m.i5), .string (m.root), .string (m.data)] 35 (0, 0)), Ob g1 (.cells #[.int .i64 n, .int .i64 p, .int .i64 l, .int .i64 q, .bool ft] 23 (0, 0)), Old w no] := by have h := H249.absorbI [9, 13, 14, 15, 10, 11, 12] H253; exact h
     refine b_ret rfl rfl ?_
     refine l_of (s_call0 H253 (wt1 rfl rfl rfl rfl (neg_of (beq_self_eq_true ((mayQ (Co.mk n p l q ft) a1 a0 m).bg)))) (x_call' rfl rfl cl14) (choices_s (mayQ (Co.mk n p l q ft) a1 a0 m).wa p246 p250 c247 c251 (hw162.wok (by omega)).wa _ (H253.rwReads (k := 8) rfl) (H253.rwReads (k := 0) rfl)) rfl rfl ?_)
     intro wq254 H255
     refine w_g (v := .bool false) (neg_of (beq_self_eq_true ((mayQ (Co.mk n p l q ft) a1 a0 m).bg))) (x_not (b := true) rfl rfl) ?_
     refine w_v (v := .bool false) (x_pick_f rfl rfl (neg_of (beq_self_eq_true ((mayQ (Co.mk n p l q ft) a1 a0 m).bg))) rfl) ?_
     refine w_m ?_
     refine w_g rfl xm ?_
     refine w_g rfl xm ?_
     refine l_of (s_call (wt1 rfl rfl rfl rfl rfl) (x_call' rfl rfl cl15) (owed_o sg9 (Co.mk n p l q ft) false A155 A156 (mayQ (Co.mk n p l q ft) a1 a0 m) (mayO (Co.mk n p l q ft) a1 a0 m) (hw162.wok (by omega)).al (hw162.wok (by omega)).wa hw162.ok _ (H255.takes [9, 10, 11, 12, 13, 14, 15] (by decide))) ?_)
     rintro _ wq258 ⟨p256, c257, rfl, H259⟩
     replace H259 : S wq258 [Rw 49 3 p256 (owedS (mayQ (Co.mk n p l q ft) a1 a0 m)).length c257 (chV (owedS (mayQ (Co.mk n p l q ft) a1 a0 m))), sgI sg9 (Co.mk n p l q ft) true A156 A155 (mayO (Co.mk n p l q ft) a1 a0 m) (mayQ (Co.mk n p l q ft) a1 a0 m), alI A155 (mayQ (Co.mk n p l q ft) a1 a0 m), waI A155 (mayQ (Co.mk n p l q ft) a1 a0 m), goI A155 (mayQ (Co.mk n p l q ft) a1 a0 m), alI A156 (mayO (Co.mk n p l q ft) a1 a0 m), waI A156 (mayO (Co.mk n p l q ft) a1 a0 m), goI A156 (mayO (Co.mk n p l q ft) a1 a0 m), Rw 49 3 p250 (mayQ (Co.mk n p l q ft) a1 a0 m).wa.length c251 (chV (mayQ (Co.mk n p l q ft) a1 a0 m).wa), sgI sg14 (Co.mk n p l q ft) true A160 A159 (mayQ (Co.mk n p l q ft) a1 a0 m) (mayO (Co.mk n p l q ft) a1 a0 m), alI A160 (mayQ (Co.mk n p l q ft) a1 a0 m), waI A160 (mayQ (Co.mk n p l q ft) a1 a0 m), goI A160 (mayQ (Co.mk n p l q ft) a1 a0 m), alI A159 (mayO (Co.mk n p l q ft) a1 a0 m), waI A159 (mayO (Co.mk n p l q ft) a1 a0 m), goI A159 (mayO (Co.mk n p l q ft) a1 a0 m), Rw 49 3 p246 (mayQ (Co.mk n p l q ft) a1 a0 m).wa.length c247 (chV (mayQ (Co.mk n p l q ft) a1 a0 m).wa), Rw 3 1 p216 (mayO (Co.mk n p l q ft) a1 a0 m).al.length c217 (zV (mayO (Co.mk n p l q ft) a1 a0 m).al), Rw 3 1 p212 (mayO (Co.mk n p l q ft) a1 a0 m).al.length c213 (zV (mayO (Co.mk n p l q ft) a1 a0 m).al), Rw 49 3 p206 (owedS (mayO (Co.mk n p l q ft) a1 a0 m)).length c207 (chV (owedS (mayO (Co.mk n p l q ft) a1 a0 m))), Rw 49 3 p202 (owedS (mayO (Co.mk n p l q ft) a1 a0 m)).length c203 (chV (owedS (mayO (Co.mk n p l q ft) a1 a0 m))), Rw 49 3 p196 (mayO (Co.mk n p l q ft) a1 a0 m).wa.length c197 (chV (mayO (Co.mk n p l q ft) a1 a0 m).wa), Rw 49 3 p192 (mayO (Co.mk n p l q ft) a1 a0 m).wa.length c193 (chV (mayO (Co.mk n p l q ft) a1 a0 m).wa), Ob g165 (.cells #[.bool true, .bool false] 4 (0, 0)), Ob g148 (.cells #[.bool true, .int .i64 (m.kind), .int .i64 (m.i1), .int .i64 (m.i2), .int .i64 (m.i3), .int .i64 (m.i4), .int .i64 (m.i5), .string (m.root), .string (m.data)] 35 (0, 0)), Ob g1 (.cells #[.int .i64 n, .int .i64 p, .int .i64 l, .int .i64 q, .bool ft] 23 (0, 0)), Old w no] := by have h := H255.absorbI [9, 10, 11, 12, 13, 14, 15] H259; exact h
     refine b_ret rfl rfl ?_
     refine w_g rfl xm ?_
     refine w_g rfl xm ?_
     refine w_g (v := .bool true) rfl (x_not (b := false) rfl rfl) ?_
     refine l_of (s_call (wt1 rfl rfl rfl rfl rfl) (x_call' rfl rfl cl15) (owed_o sg14 (Co.mk n p l q ft) true A160 A159 (mayQ (Co.mk n p l q ft) a1 a0 m) (mayO (Co.mk n p l q ft) a1 a0 m) (hw162.wok (by omega)).al (hw162.wok (by omega)).wa hw162.ok _ (H259.takes [9, 10, 11, 12, 13, 14, 15] (by decide))) ?_)
     rintro _ wq262 ⟨p260, c261, rfl, H263⟩
     replace H263 : S wq262 [Rw 49 3 p260 (owedS (mayQ (Co.mk n p l q ft) a1 a0 m)).length c261 (chV (owedS (mayQ (Co.mk n p l q ft) a1 a0 m))), sgI sg14 (Co.mk n p l q ft) true A160 A159 (mayQ (Co.mk n p l q ft) a1 a0 m) (mayO (Co.mk n p l q ft) a1 a0 m), alI A160 (mayQ (Co.mk n p l q ft) a1 a0 m), waI A160 (mayQ (Co.mk n p l q ft) a1 a0 m), goI A160 (mayQ (Co.mk n p l q ft) a1 a0 m), alI A159 (mayO (Co.mk n p l q ft) a1 a0 m), waI A159 (mayO (Co.mk n p l q ft) a1 a0 m), goI A159 (mayO (Co.mk n p l q ft) a1 a0 m), Rw 49 3 p256 (owedS (mayQ (Co.mk n p l q ft) a1 a0 m)).length c257 (chV (owedS (mayQ (Co.mk n p l q ft) a1 a0 m))), sgI sg9 (Co.mk n p l q ft) true A156 A155 (mayO (Co.mk n p l q ft) a1 a0 m) (mayQ (Co.mk n p l q ft) a1 a0 m), alI A155 (mayQ (Co.mk n p l q ft) a1 a0 m), waI A155 (mayQ (Co.mk n p l q ft) a1 a0 m), goI A155 (mayQ (Co.mk n p l q ft) a1 a0 m), alI A156 (mayO (Co.mk n p l q ft) a1 a0 m), waI A156 (mayO (Co.mk n p l q ft) a1 a0 m), goI A156 (mayO (Co.mk n p l q ft) a1 a0 m), Rw 49 3 p250 (mayQ (Co.mk n p l q ft) a1 a0 m).wa.length c251 (chV (mayQ (Co.mk n p l q ft) a1 a0 m).wa), Rw 49 3 p246 (mayQ (Co.mk n p l q ft) a1 a0 m).wa.length c247 (chV (mayQ (Co.mk n p l q ft) a1 a0 m).wa), Rw 3 1 p216 (mayO (Co.mk n p l q ft) a1 a0 m).al.length c217 (zV (mayO (Co.mk n p l q ft) a1 a0 m).al), Rw 3 1 p212 (mayO (Co.mk n p l q ft) a1 a0 m).al.length c213 (zV (mayO (Co.mk n p l q ft) a1 a0 m).al), Rw 49 3 p206 (owedS (mayO (Co.mk n p l q ft) a1 a0 m)).length c207 (chV (owedS (mayO (Co.mk n p l q ft) a1 a0 m))), Rw 49 3 p202 (owedS (mayO (Co.mk n p l q ft) a1 a0 m)).length c203 (chV (owedS (mayO (Co.mk n p l q ft) a1 a0 m))), Rw 49 3 p196 (mayO (Co.mk n p l q ft) a1 a0 m).wa.length c197 (chV (mayO (Co.mk n p l q ft) a1 a0 m).wa), Rw 49 3 p192 (mayO (Co.mk n p l q ft) a1 a0 m).wa.length c193 (chV (mayO (Co.mk n p l q ft) a1 a0 m).wa), Ob g165 (.cells #[.bool true, .bool false] 4 (0, 0)), Ob g148 (.cells #[.bool true, .int .i64 (m.kind), .int .i64 (m.i1), .int .i64 (m.i2), .int .i64 (m.i3), .int .i64 (m.i4), .int .i64 (m.i5), .string (m.root), .string (m.data)] 35 (0, 0)), Ob g1 (.cells #[.int .i64 n, .int .i64 p, .int .i64 l, .int .i64 q, .bool ft] 23 (0, 0)), Old w no] := by have h := H259.absorbI [9, 10, 11, 12, 13, 14, 15] H263; exact h
     refine b_ret rfl rfl ?_
     refine l_of (s_call0 H263 (wt1 rfl rfl rfl rfl rfl) (x_call' rfl rfl cl14) (choices_s (owedS (mayQ (Co.mk n p l q ft) a1 a0 m)) p256 p260 c257 c261 (owed_le (hw162.wok (by omega)).wa) _ (H263.rwReads (k := 8) rfl) (H263.rwReads (k := 0) rfl)) rfl rfl ?_)
     intro wq264 H265
     refine w_g (v := .bool false) rfl (x_not (b := true) rfl rfl) ?_
     refine w_v (v := .bool false) (x_pick_f rfl rfl rfl rfl) ?_
     refine w_m ?_
     refine w_g rfl xm ?_
     refine w_g rfl xm ?_
     refine l_of (s_call (wt1 rfl rfl rfl rfl rfl) (x_call' rfl rfl cl17) (allowed_o sg9 (Co.mk n p l q ft) false A155 A156 (mayQ (Co.mk n p l q ft) a1 a0 m) (mayO (Co.mk n p l q ft) a1 a0 m) (hw162.wok (by omega)).al _ (H265.takes [9, 10, 11, 12, 13, 14, 15] (by decide))) ?_)
     rintro _ wq268 ⟨p266, c267, rfl, H269⟩
     replace H269 : S wq268 [Rw 3 1 p266 (mayQ (Co.mk n p l q ft) a1 a0 m).al.length c267 (zV (mayQ (Co.mk n p l q ft) a1 a0 m).al), sgI sg9 (Co.mk n p l q ft) true A156 A155 (mayO (Co.mk n p l q ft) a1 a0 m) (mayQ (Co.mk n p l q ft) a1 a0 m), alI A155 (mayQ (Co.mk n p l q ft) a1 a0 m), waI A155 (mayQ (Co.mk n p l q ft) a1 a0 m), goI A155 (mayQ (Co.mk n p l q ft) a1 a0 m), alI A156 (mayO (Co.mk n p l q ft) a1 a0 m), waI A156 (mayO (Co.mk n p l q ft) a1 a0 m), goI A156 (mayO (Co.mk n p l q ft) a1 a0 m), Rw 49 3 p260 (owedS (mayQ (Co.mk n p l q ft) a1 a0 m)).length c261 (chV (owedS (mayQ (Co.mk n p l q ft) a1 a0 m))), sgI sg14 (Co.mk n p l q ft) true A160 A159 (mayQ (Co.mk n p l q ft) a1 a0 m) (mayO (Co.mk n p l q ft) a1 a0 m), alI A160 (mayQ (Co.mk n p l q ft) a1 a0 m), waI A160 (mayQ (Co.mk n p l q ft) a1 a0 m), goI A160 (mayQ (Co.mk n p l q ft) a1 a0 m), alI A159 (mayO (Co.mk n p l q ft) a1 a0 m), waI A159 (mayO (Co.mk n p l q ft) a1 a0 m), goI A159 (mayO (Co.mk n p l q ft) a1 a0 m), Rw 49 3 p256 (owedS (mayQ (Co.mk n p l q ft) a1 a0 m)).length c257 (chV (owedS (mayQ (Co.mk n p l q ft) a1 a0 m))), Rw 49 3 p250 (mayQ (Co.mk n p l q ft) a1 a0 m).wa.length c251 (chV (mayQ (Co.mk n p l q ft) a1 a0 m).wa), Rw 49 3 p246 (mayQ (Co.mk n p l q ft) a1 a0 m).wa.length c247 (chV (mayQ (Co.mk n p l q ft) a1 a0 m).wa), Rw 3 1 p216 (mayO (Co.mk n p l q ft) a1 a0 m).al.length c217 (zV (mayO (Co.mk n p l q ft) a1 a0 m).al), Rw 3 1 p212 (mayO (Co.mk n p l q ft) a1 a0 m).al.length c213 (zV (mayO (Co.mk n p l q ft) a1 a0 m).al), Rw 49 3 p206 (owedS (mayO (Co.mk n p l q ft) a1 a0 m)).length c207 (chV (owedS (mayO (Co.mk n p l q ft) a1 a0 m))), Rw 49 3 p202 (owedS (mayO (Co.mk n p l q ft) a1 a0 m)).length c203 (chV (owedS (mayO (Co.mk n p l q ft) a1 a0 m))), Rw 49 3 p196 (mayO (Co.mk n p l q ft) a1 a0 m).wa.length c197 (chV (mayO (Co.mk n p l q ft) a1 a0 m).wa), Rw 49 3 p192 (mayO (Co.mk n p l q ft) a1 a0 m).wa.length c193 (chV (mayO (Co.mk n p l q ft) a1 a0 m).wa), Ob g165 (.cells #[.bool true, .bool false] 4 (0, 0)), Ob g148 (.cells #[.bool true, .int .i64 (m.kind), .int .i64 (m.i1), .int .i64 (m.i2), .int .i64 (m.i3), .int .i64 (m.i4), .int .i64 (m.i5), .string (m.root), .string (m.data)] 35 (0, 0)), Ob g1 (.cells #[.int .i64 n, .int .i64 p, .int .i64 l, .int .i64 q, .bool ft] 23 (0, 0)), Old w no] := by have h := H265.absorbI [9, 10, 11, 12, 13, 14, 15] H269; exact h
     refine b_ret rfl rfl ?_
     refine w_g rfl xm ?_
     refine w_g rfl xm ?_
     refine w_g (v := .bool true) rfl (x_not (b := false) rfl rfl) ?_
     refine l_of (s_call (wt1 rfl rfl rfl rfl rfl) (x_call' rfl rfl cl17) (allowed_o sg14 (Co.mk n p l q ft) true A160 A159 (mayQ (Co.mk n p l q ft) a1 a0 m) (mayO (Co.mk n p l q ft) a1 a0 m) (hw162.wok (by omega)).al _ (H269.takes [9, 10, 11, 12, 13, 14, 15] (by decide))) ?_)
     rintro _ wq272 ⟨p270, c271, rfl, H273⟩
     replace H273 : S wq272 [Rw 3 1 p270 (mayQ (Co.mk n p l q ft) a1 a0 m).al.length c271 (zV (mayQ (Co.mk n p l q ft) a1 a0 m).al), sgI sg14 (Co.mk n p l q ft) true A160 A159 (mayQ (Co.mk n p l q ft) a1 a0 m) (mayO (Co.mk n p l q ft) a1 a0 m), alI A160 (mayQ (Co.mk n p l q ft) a1 a0 m), waI A160 (mayQ (Co.mk n p l q ft) a1 a0 m), goI A160 (mayQ (Co.mk n p l q ft) a1 a0 m), alI A159 (mayO (Co.mk n p l q ft) a1 a0 m), waI A159 (mayO (Co.mk n p l q ft) a1 a0 m), goI A159 (mayO (Co.mk n p l q ft) a1 a0 m), Rw 3 1 p266 (mayQ (Co.mk n p l q ft) a1 a0 m).al.length c267 (zV (mayQ (Co.mk n p l q ft) a1 a0 m).al), sgI sg9 (Co.mk n p l q ft) true A156 A155 (mayO (Co.mk n p l q ft) a1 a0 m) (mayQ (Co.mk n p l q ft) a1 a0 m), alI A155 (mayQ (Co.mk n p l q ft) a1 a0 m), waI A155 (mayQ (Co.mk n p l q ft) a1 a0 m), goI A155 (mayQ (Co.mk n p l q ft) a1 a0 m), alI A156 (mayO (Co.mk n p l q ft) a1 a0 m), waI A156 (mayO (Co.mk n p l q ft) a1 a0 m), goI A156 (mayO (Co.mk n p l q ft) a1 a0 m), Rw 49 3 p260 (owedS (mayQ (Co.mk n p l q ft) a1 a0 m)).length c261 (chV (owedS (mayQ (Co.mk n p l q ft) a1 a0 m))), Rw 49 3 p256 (owedS (mayQ (Co.mk n p l q ft) a1 a0 m)).length c257 (chV (owedS (mayQ (Co.mk n p l q ft) a1 a0 m))), Rw 49 3 p250 (mayQ (Co.mk n p l q ft) a1 a0 m).wa.length c251 (chV (mayQ (Co.mk n p l q ft) a1 a0 m).wa), Rw 49 3 p246 (mayQ (Co.mk n p l q ft) a1 a0 m).wa.length c247 (chV (mayQ (Co.mk n p l q ft) a1 a0 m).wa), Rw 3 1 p216 (mayO (Co.mk n p l q ft) a1 a0 m).al.length c217 (zV (mayO (Co.mk n p l q ft) a1 a0 m).al), Rw 3 1 p212 (mayO (Co.mk n p l q ft) a1 a0 m).al.length c213 (zV (mayO (Co.mk n p l q ft) a1 a0 m).al), Rw 49 3 p206 (owedS (mayO (Co.mk n p l q ft) a1 a0 m)).length c207 (chV (owedS (mayO (Co.mk n p l q ft) a1 a0 m))), Rw 49 3 p202 (owedS (mayO (Co.mk n p l q ft) a1 a0 m)).length c203 (chV (owedS (mayO (Co.mk n p l q ft) a1 a0 m))), Rw 49 3 p196 (mayO (Co.mk n p l q ft) a1 a0 m).wa.length c197 (chV (mayO (Co.mk n p l q ft) a1 a0 m).wa), Rw 49 3 p192 (mayO (Co.mk n p l q ft) a1 a0 m).wa.length c193 (chV (mayO (Co.mk n p l q ft) a1 a0 m).wa), Ob g165 (.cells #[.bool true, .bool false] 4 (0, 0)), Ob g148 (.cells #[.bool true, .int .i64 (m.kind), .int .i64 (m.i1), .int .i64 (m.i2), .int .i64 (m.i3), .int .i64 (m.i4), .int .i64 (m.i5), .string (m.root), .string (m.data)] 35 (0, 0)), Ob g1 (.cells #[.int .i64 n, .int .i64 p, .int .i64 l, .int .i64 q, .bool ft] 23 (0, 0)), Old w no] := by have h := H269.absorbI [9, 10, 11, 12, 13, 14, 15] H273; exact h
     refine b_ret rfl rfl ?_
     refine l_of (s_call0 H273 (wt1 rfl rfl rfl rfl rfl) (x_call' rfl rfl cl16) (ints_s (mayQ (Co.mk n p l q ft) a1 a0 m).al p266 p270 c267 c271 (hw162.wok (by omega)).al _ (H273.rwReads (k := 8) rfl) (H273.rwReads (k := 0) rfl)) rfl rfl ?_)
     intro wq274 H275
     refine w_g (v := .bool false) rfl (x_not (b := true) rfl rfl) ?_
     refine w_v (v := .bool false) (x_pick_f rfl rfl rfl rfl) ?_
     refine w_e ?_
     refine g_weak [(5, .pointer (some ⟨sg9, 0, none⟩)), (7, .pointer (some ⟨sg14, 0, none⟩)), (58, .slice pl ls.length cl), (59, .int .i64 ((ls.length : Int))), (60, .int .i64 ((k : Int))), (78, .slice (some ⟨g165, 0, none⟩) (2) (2)), (79, .int .i64 2), (80, .int .i64 1), (154, .bool false)] ⟨rfl, rfl, rfl, rfl, rfl, rfl, rfl, rfl, rfl, trivial⟩ ?_
     refine g_cond_f rfl rfl ?_
     refine g_skip ?_
     refine g_in ?_
     refine g_then ?_
     refine g_region ?_
     refine w_b (v := .int .i64 2) (hb := (b_add (r := 2) (by decide))) ?_
     refine w_m ?_
     refine w_e ?_
     refine g_roundU ?_
     refine w_s ?_
     refine w_b ?_
     refine w_e ?_
     refine g_seq ?_
     refine g_cond_f rfl (by decide) ?_
     refine g_exit ?_
     refine g_then_exit ?_
     refine g_then_exit ?_
     refine g_in_hit ?_
     refine g_in ?_
     refine g_then ?_
     refine g_region ?_
     refine w_b (v := .int .i64 ((k : Int) + 1)) (hb := (b_add (w64 (by omega)))) ?_
     refine w_m ?_
     refine w_e ?_
     refine g_round (i := (k, a0, a1, A0, A1, C0, C1)) ((k + 1), (mayQ (Co.mk n p l q ft) a1 a0 m), (mayO (Co.mk n p l q ft) a1 a0 m), A155, A156, A159, A160) ?_ ?_ ?_
     · exact ⟨rfl, rfl, rfl, rfl, rfl, trivial⟩
     · exact ⟨by omega, hw162, hw161, (H275.takes [9, 13, 14, 15, 10, 11, 12, 1, 2, 3, 4, 5, 6, 7, 28, 29] (by decide))⟩
     · (try dsimp only); omega
   ·
    refine g_cond_f rfl (decide_eq_false hb19) ?_
    refine g_exit ?_
    refine g_then_exit ?_
    refine g_then_exit ?_
    refine g_in_hit ?_
    refine g_then ?_
    refine w_s ?_
    refine l_of (s_call0 H18 (wt0 rfl) (x_call' rfl rfl cl6) (awake_s _) rfl rfl ?_)
    intro wq276 H277
    refine w_a ?_
    refine w_e ?_
    refine g_ret ?_
    refine fin_ret [.tmp 4] [.bool true] rfl ⟨rfl, trivial⟩ ?_
    exact ⟨rfl, H277.mask [false, false, false, false, false, false, false, false, false, false, false, false, false, false, false, true]⟩
  ·
   refine l_of (s_call0 H5 (wt0 rfl) (x_call' rfl rfl cl7) (newF_no ft hg _) rfl rfl ?_)
   intro wq278 H279
   refine w_r5 ?_
   refine w_e ?_
   refine g_weak [(1, .slice pl ls.length cl), (2, .pointer (some ⟨g1, 0, none⟩)), (5, .pointer none), (6, .int .i64 7)] ⟨rfl, rfl, rfl, rfl, trivial⟩ ?_
   refine w_s ?_
   refine w_f 0 ?_
   refine w_1 H279 0 ?_
   refine w_f 1 ?_
   refine w_1 H279 0 ?_
   refine w_f 2 ?_
   refine w_1 H279 0 ?_
   refine w_f 3 ?_
   refine w_1 H279 0 ?_
   refine w_f 4 ?_
   refine w_1 H279 0 ?_
   refine l_of (s_call0 H279 (wt0 rfl) (x_call' rfl rfl cl7) (newF_no ft hg _) rfl rfl ?_)
   intro wq280 H281
   refine w_r5 ?_
   refine w_e ?_
   refine g_weak [(1, .slice pl ls.length cl), (5, .pointer none), (6, .int .i64 7), (7, .pointer none), (8, .int .i64 7)] ⟨rfl, rfl, rfl, rfl, rfl, trivial⟩ ?_
   refine g_seq ?_
   refine w_s ?_
   refine w_r2 ?_
   refine w_b (v := .bool (!decide ((7 : Int) = 7))) (hb := b_neq) ?_
   refine w_m ?_
   refine w_g (nf rfl) xm ?_
   refine w_g (v := .bool (!decide ((7 : Int) = 0))) (nf rfl) (x_bin rfl rfl rfl b_neq) ?_
   refine w_v (v := .bool (!decide ((7 : Int) = 0))) (x_pick_f rfl rfl (nf rfl) rfl) ?_
   refine w_e ?_
   refine g_cond_t rfl (by decide) ?_
   refine w_s ?_
   refine w_r2 ?_
   refine w_b ?_
   refine w_m ?_
   refine l_of (s_call0 H281 (wt1 rfl rfl rfl rfl (decide_eq_true rfl)) (x_call' rfl rfl cl6) (awake_s _) rfl rfl ?_)
   intro wq282 H283
   refine w_v (v := .bool true) (x_pick_t rfl rfl (decide_eq_true rfl) rfl) ?_
   refine w_a ?_
   refine w_e ?_
   refine g_weak [(4, .bool true)] ⟨rfl, trivial⟩ ?_
   refine g_ret ?_
   refine g_then_ret ?_
   refine fin_ret [.tmp 4] [.bool true] rfl ⟨rfl, trivial⟩ ?_
   exact ⟨rfl, H283.mask [false, true]⟩
 ·
  refine g_cond_t rfl (neg_of hb6) ?_
  refine w_s ?_
  refine l_of (s_call0 H5 (wt0 rfl) (x_call' rfl rfl cl6) (awake_s _) rfl rfl ?_)
  intro wq284 H285
  refine w_a ?_
  refine w_e ?_
  refine g_ret ?_
  refine g_then_ret ?_
  refine fin_ret [.tmp 4] [.bool true] rfl ⟨rfl, trivial⟩ ?_
  exact ⟨rfl, H285.mask [false, true]⟩
end Go.Proofs.Ytdkfkdekiljcoaa
