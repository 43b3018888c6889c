import Derived.Test.YtpbjekdjebjbkaaGreatFk
import Derived.Test.YtpbjekdjebjbkaaGreatTy
set_option linter.unusedSimpArgs false
set_option linter.unusedVariables false
namespace Go.Proofs.YtpbjekdjebjbkaaGreat
open Go.RowKit

theorem cl11 : callable Tryz.prog 11 = true := by kernel_rfl
theorem sum_part {z : List Int} {j : Nat} (h : BdL 1000000 z) (hz : z.length ≤ 9) : 0 ≤ sumI (z.take j) ∧ sumI (z.take j) ≤ 9000000 := by
  have h1 := sumI_bd (B := 1000000) (l := z.take j) fun y hy => h y (List.mem_of_mem_take hy)
  have h2 : (z.take j).length ≤ 9 := Nat.le_trans (by rw [List.length_take]; exact Nat.min_le_right _ _) hz
  omega
theorem sum_partG {B : Int} {z : List Int} {j : Nat} (h : BdL B z) (hB : 0 ≤ B ∧ B ≤ 10000000000) (hz : z.length ≤ 9) : 0 ≤ sumI (z.take j) ∧ sumI (z.take j) ≤ 90000000000 := by
  have h1 := sumI_bd (B := 10000000000) (l := z.take j) fun y hy => ⟨(h y (List.mem_of_mem_take hy)).1, Int.le_trans (h y (List.mem_of_mem_take hy)).2 hB.2⟩
  have h2 : (z.take j).length ≤ 9 := Nat.le_trans (by rw [List.length_take]; exact Nat.min_le_right _ _) hz
  omega
set_option maxRecDepth 20000 in
set_option maxHeartbeats 4000000 in
theorem sums_law (sd : ByteArray) (l : List Pl) (p : Option Addr) (n c : Nat) (hn2 : n ≤ 9223372036854775807) (rn : Int)  (w : World) (hr : Reads w p n c 2 (fl plL l)) : Calls Tryz.prog 4 #[.string sd, .slice p n c, .int .i64 rn] w fun e w' => e = .returned (.bool true) ∧ S w' [Old w no] := by
 have H0 := S.old w
 have hnl := hr.lenL plE
 refine enter 137 Tryz.func4 rfl rfl rfl ?_
 refine g_weak [(0, .string sd), (1, .slice p n c), (2, .int .i64 rn)] ⟨rfl, rfl, rfl, trivial⟩ ?_
 refine w_s ?_
 refine w_a ?_
 refine w_e ?_
 refine g_seq ?_
 refine w_s ?_
 refine w_r3 ?_
 refine l_of (s_call0 H0 (wt0 rfl) (x_call' rfl rfl cl6) (light_s sd l p n c rn _) rfl rfl ?_)
 intro wq1 H2
 refine w_v (v := .bool (!decide (n ≤ 9 ∧ sd.size ≤ 120 ∧ rn ≤ 30))) (x_not (b := decide (n ≤ 9 ∧ sd.size ≤ 120 ∧ rn ≤ 30)) rfl rfl) ?_
 refine w_e ?_
 by_cases hb3 : (n ≤ 9 ∧ sd.size ≤ 120 ∧ rn ≤ 30)
 ·
  refine g_cond_f rfl (nf hb3) ?_
  refine g_skip ?_
  refine g_then ?_
  refine w_s ?_
  refine w_r2 ?_
  refine l_of (s_call (wt0 rfl) (x_call' rfl rfl cl8) (new_any sd l p n c (by omega) _ (H2.exReads (k := 0) rfl hr (fun _ _ _ h => h))) ?_)
  rintro ee6 wq4 hor7
  rcases hor7 with ⟨rfl, hEX, H5⟩ | ⟨X, rfl, hEX, hAX, hMX, hlX, H5⟩
  ·
   replace H5 : S wq4 [Old w no] := H2.absorb (new := []) H5
   refine b_ret rfl rfl ?_
   refine w_r5 ?_
   refine w_e ?_
   refine g_weak [(1, .slice p n c), (2, .int .i64 rn), (7, .pointer none), (8, .int .i64 ((newE sd l)))] ⟨rfl, rfl, rfl, rfl, trivial⟩ ?_
   refine g_seq ?_
   refine w_s ?_
   refine w_m ?_
   refine w_b (v := .bool (!decide (((newE sd l) : Int) = 0))) (hb := b_neq) ?_
   refine w_e ?_
   refine g_cond_t rfl (nt hEX) ?_
   refine w_s ?_
   refine l_of (s_call0 H5 (wt0 rfl) (x_call' rfl rfl cl7) (awake_s _) rfl rfl ?_)
   intro wq8 H9
   refine w_a ?_
   refine w_e ?_
   refine g_ret ?_
   refine g_then_ret ?_
   refine fin_ret [.tmp 6] [.bool true] rfl ⟨rfl, trivial⟩ ?_
   exact ⟨rfl, H9.mask [true]⟩
  ·
   replace H5 : S wq4 [(GM.I X), Old w no] := H2.absorb (new := [(GM.I X)]) H5
   have H10 : S wq4 [(Pool []), (GM.I X), Old w no] := S.lstNil H5 RdI
   refine b_ret rfl rfl ?_
   refine w_r5 ?_
   refine w_e ?_
   refine g_weak [(1, .slice p n c), (2, .int .i64 rn), (7, .pointer (some ⟨X.g, 0, none⟩)), (8, .int .i64 0)] ⟨rfl, rfl, rfl, rfl, trivial⟩ ?_
   refine g_seq ?_
   refine w_s ?_
   refine w_m ?_
   refine w_b (v := .bool (!decide ((0 : Int) = 0))) (hb := b_neq) ?_
   refine w_e ?_
   refine g_cond_f rfl (nf rfl) ?_
   refine g_skip ?_
   refine g_then ?_
   refine g_seq ?_
   refine w_s ?_
   refine w_m ?_
   refine w_v (v := .int .i64 (max rn 0)) (x_max rfl rfl rfl) ?_
   refine w_m ?_
   refine w_e ?_
   refine g_block ?_
   refine g_loop (ι := Nat × GM × List Rd) (fun (k, Y, pl2) => [(1, .slice p n c), (7, .pointer (some ⟨X.g, 0, none⟩)), (39, .int .i64 (max rn 0)), (40, .int .i64 ((k : Int)))]) (fun (k, Y, pl2) wx => ((k : Int) ≤ max rn 0) ∧ (Y.A.ps = l) ∧ (Y.g = X.g) ∧ (Y.gs.length = k) ∧ (MOK pl2 Y) ∧ (sumI Y.A.got = sumI Y.A.gave) ∧ S wx [(GM.I Y), (Pool pl2), Old w no]) (fun (k, Y, pl2) => (max rn 0).toNat - k) (0, X, []) ⟨rfl, rfl, rfl, rfl, trivial⟩ ⟨(by omega), (by rw [hAX]; rfl), rfl, hlX, hMX, (by rw [hAX]; rfl), (H10.takes [1, 0, 2] (by decide))⟩ ?_
   rintro ⟨k, Y, pl2⟩ wq11 ⟨hk, hYps, hYg, hYl, hYM, hYS, H12⟩
   refine g_weak [(1, .slice p n c), (7, .pointer (some ⟨X.g, 0, none⟩)), (39, .int .i64 (max rn 0)), (40, .int .i64 ((k : Int)))] ⟨rfl, rfl, rfl, rfl, trivial⟩ ?_
   refine w_s ?_
   refine w_b ?_
   refine w_e ?_
   refine g_seq ?_
   by_cases hb13 : ((k : Int) : Int) < max rn 0
   ·
    refine g_cond_t rfl (decide_eq_true hb13) ?_
    refine g_skip ?_
    refine g_then ?_
    refine g_seq ?_
    refine g_block ?_
    refine w_s ?_
    refine w_m ?_
    refine l_of (s_call (wt0 rfl) (x_call' rfl rfl cl9) (round_g hYM (by omega) hYg (H12.takes [0, 1] (by decide))) ?_)
    rintro _ wq14 ⟨pz1, cz1, zz1, X1, rd1, rfl, hzz1, hA1, hg1, hl1, hM1, H15⟩
    replace H15 : S wq14 [Rw 34 1 pz1 zz1.length cz1 (fl rowL zz1), (Lst BwI zz1), (GM.I X1), (Pool (pl2 ++ [rd1])), Old w no] := by have h := H12.absorbI [0, 1] H15; exact h
    refine b_ret rfl rfl ?_
    have hzl1 : zz1.length = l.length := by rw [zz_len hzz1, hYps]
    refine w_r5 ?_
    refine w_e ?_
    refine g_seq ?_
    refine w_s ?_
    refine w_m ?_
    refine w_b (v := .bool (!decide ((0 : Int) = 0))) (hb := b_neq) ?_
    refine w_m ?_
    refine w_g (nf rfl) xm ?_
    refine w_g (v := .int .i64 ((zz1.length : Int))) (nf rfl) (x_lenl rfl rfl Tryz.underlying29) ?_
    refine w_g (nf rfl) xm ?_
    refine w_g (v := .int .i64 ((n : Int))) (nf rfl) (x_lenl rfl rfl Tryz.underlying22) ?_
    refine w_g (v := .bool (!decide (((zz1.length : Int) : Int) = (n : Int)))) (nf rfl) (x_bin rfl rfl rfl b_neq) ?_
    refine w_v (v := .bool (!decide (((zz1.length : Int) : Int) = (n : Int)))) (x_pick_f rfl rfl (nf rfl) rfl) ?_
    refine w_e ?_
    refine g_weak [(1, .slice p n c), (7, .pointer (some ⟨X.g, 0, none⟩)), (9, .slice pz1 zz1.length cz1), (39, .int .i64 (max rn 0)), (40, .int .i64 ((k : Int))), (55, .bool (!decide (((zz1.length : Int) : Int) = (n : Int))))] ⟨rfl, rfl, rfl, rfl, rfl, rfl, trivial⟩ ?_
    refine g_cond_f rfl (nf (by omega)) ?_
    refine g_skip ?_
    refine g_then ?_
    refine w_s ?_
    refine w_m ?_
    refine w_v (v := .int .i64 ((zz1.length : Int))) (x_lenl rfl rfl Tryz.underlying29) ?_
    refine w_m ?_
    refine w_e ?_
    refine g_block ?_
    refine g_loop (ι := Nat) (fun i => [(1, .slice p n c), (7, .pointer (some ⟨X.g, 0, none⟩)), (39, .int .i64 (max rn 0)), (40, .int .i64 ((k : Int))), (56, .slice pz1 zz1.length cz1), (57, .int .i64 ((zz1.length : Int))), (58, .int .i64 ((i : Int)))]) (fun i wx => (i ≤ zz1.length) ∧ S wx [Rw 34 1 pz1 zz1.length cz1 (fl rowL zz1), (Lst BwI zz1), (GM.I X1), (Pool (pl2 ++ [rd1])), Old w no]) (fun i => zz1.length - i) (0) ⟨rfl, rfl, rfl, rfl, rfl, rfl, rfl, trivial⟩ ⟨Nat.zero_le _, (H15.takes [0, 1, 2, 3, 4] (by decide))⟩ ?_
    rintro i wq16 ⟨hi, H17⟩
    refine g_weak [(1, .slice p n c), (7, .pointer (some ⟨X.g, 0, none⟩)), (39, .int .i64 (max rn 0)), (40, .int .i64 ((k : Int))), (56, .slice pz1 zz1.length cz1), (57, .int .i64 ((zz1.length : Int))), (58, .int .i64 ((i : Int)))] ⟨rfl, rfl, rfl, rfl, rfl, rfl, rfl, trivial⟩ ?_
    refine w_s ?_
    refine w_b ?_
    refine w_e ?_
    refine g_seq ?_
    by_cases hb18 : ((i : Int) : Int) < (zz1.length : Int)
    ·
     refine g_cond_t rfl (decide_eq_true hb18) ?_
     refine g_skip ?_
     refine g_then ?_
     refine g_seq ?_
     refine g_block ?_
     refine w_s ?_
     refine w_m ?_
     refine w_v (v := .pointer ((pz1).map fun q => q.add (i * 1))) (x_idxR i (H17.rwReads (k := 0) rfl) rfl rfl rfl Tryz.underlying29 sz34 (by omega)) ?_
     have hlq := (H17.rwReads (k := 0) rfl).lenL rowE
     obtain ⟨x19, hx19⟩ := ex_at (l := zz1) (j := i) (by omega)
     clear hlq
     have hzx19 : x19.l = rowR Y.A i := zrow hzz1 hx19 (by rw [hYps]; omega)
     have hlx19 : x19.l.length = l.length := by rw [hzx19, rowR_len hYM.ok (by rw [hYps]; omega), hYps]
     obtain ⟨pz, hpz⟩ := ex_at (l := l) (j := i) (by omega)
     have hR9 : RowB l.length i pz.rt x19.l := by have h9 := hYM.ok.row (i := i) (p := pz) (by rw [hYps]; exact hpz); rw [← hzx19, hYps] at h9; exact h9
     have hbd9 : BdL 1000000 x19.l := by rw [hzx19]; exact (hYM.ok.row_bd (List.mem_of_getElem? (GOK.round_at (by rw [hYps]; omega)))).2.1
     refine w_v (v := .slice x19.p x19.l.length x19.c) (x_loadR1 i (H17.rwReads (k := 0) rfl) (by omega) rfl rfl Tryz.underlying34 rfl (rowE.flAt1 hx19 rfl)) ?_
     refine w_r2 ?_
     refine w_e ?_
     refine w_s ?_
     refine w_a ?_
     refine w_e ?_
     refine g_seq ?_
     refine w_s ?_
     refine w_m ?_
     refine w_v (v := .int .i64 ((x19.l.length : Int))) (x_lenl rfl rfl Tryz.underlying34) ?_
     refine w_m ?_
     refine w_e ?_
     refine g_block ?_
     refine g_loop (ι := Nat × Int) (fun (j, s) => [(1, .slice p n c), (7, .pointer (some ⟨X.g, 0, none⟩)), (11, .int .i64 ((i : Int))), (12, .slice x19.p x19.l.length x19.c), (13, .int .i64 s), (39, .int .i64 (max rn 0)), (40, .int .i64 ((k : Int))), (56, .slice pz1 zz1.length cz1), (57, .int .i64 ((zz1.length : Int))), (58, .int .i64 ((i : Int))), (63, .slice x19.p x19.l.length x19.c), (64, .int .i64 ((x19.l.length : Int))), (65, .int .i64 ((j : Int)))]) (fun (j, s) wx => (j ≤ x19.l.length) ∧ (s = sumI (x19.l.take j)) ∧ S wx [Rw 34 1 pz1 zz1.length cz1 (fl rowL zz1), (Lst BwI zz1), (GM.I X1), (Pool (pl2 ++ [rd1])), Old w no]) (fun (j, s) => x19.l.length - j) (0, 0) ⟨rfl, rfl, rfl, rfl, rfl, rfl, rfl, rfl, rfl, rfl, rfl, rfl, rfl, trivial⟩ ⟨Nat.zero_le _, rfl, (H17.takes [0, 1, 2, 3, 4] (by decide))⟩ ?_
     rintro ⟨j, s⟩ wq20 ⟨hj, hs, H21⟩
     refine g_weak [(1, .slice p n c), (7, .pointer (some ⟨X.g, 0, none⟩)), (11, .int .i64 ((i : Int))), (12, .slice x19.p x19.l.length x19.c), (13, .int .i64 s), (39, .int .i64 (max rn 0)), (40, .int .i64 ((k : Int))), (56, .slice pz1 zz1.length cz1), (57, .int .i64 ((zz1.length : Int))), (58, .int .i64 ((i : Int))), (63, .slice x19.p x19.l.length x19.c), (64, .int .i64 ((x19.l.length : Int))), (65, .int .i64 ((j : Int)))] ⟨rfl, rfl, rfl, rfl, rfl, rfl, rfl, rfl, rfl, rfl, rfl, rfl, rfl, trivial⟩ ?_
     refine w_s ?_
     refine w_b ?_
     refine w_e ?_
     refine g_seq ?_
     by_cases hb22 : ((j : Int) : Int) < (x19.l.length : Int)
     ·
      refine g_cond_t rfl (decide_eq_true hb22) ?_
      refine g_skip ?_
      refine g_then ?_
      refine g_seq ?_
      refine g_block ?_
      refine w_s ?_
      refine w_m ?_
      refine w_v (v := .pointer ((x19.p).map fun q => q.add (j * 1))) (x_idxR j (H21.bwRd (k := 1) rfl hx19) rfl rfl rfl Tryz.underlying34 sz3 (by omega)) ?_
      have hlq := (H21.bwRd (k := 1) rfl hx19).lenL intE
      obtain ⟨x23, hx23⟩ := ex_at (l := x19.l) (j := j) (by omega)
      clear hlq
      have hvx23 := hbd9.at hx23
      have hownx23 := fun h => hR9.own_at (by omega) hx23 h
      have hsp9 := sum_part (j := j) hbd9 (by omega)
      rw [← hs] at hsp9
      refine w_v (v := .int .i64 x23) (x_loadR1 j (H21.bwRd (k := 1) rfl hx19) (by omega) rfl rfl Tryz.underlying3 rfl (intE.flAt1 hx23 rfl)) ?_
      refine w_r2 ?_
      refine w_e ?_
      refine g_seq ?_
      refine w_s ?_
      refine w_m ?_
      refine w_b ?_
      refine w_m ?_
      by_cases hb24 : (x23 : Int) < 0
      ·
       refine w_n (decide_eq_true hb24) ?_
       refine w_n (decide_eq_true hb24) ?_
       refine w_n (decide_eq_true hb24) ?_
       refine w_n (decide_eq_true hb24) ?_
       refine l_of (s_not (wn2 rfl rfl rfl rfl) rfl rfl ?_)
       refine l_of (s_not (wn2 rfl rfl rfl rfl) rfl rfl ?_)
       refine w_n (decide_eq_true hb24) ?_
       refine w_v (v := .bool true) (x_pick_t rfl rfl (decide_eq_true hb24) rfl) ?_
       refine w_e ?_
       refine g_weak [(1, .slice p n c), (7, .pointer (some ⟨X.g, 0, none⟩)), (11, .int .i64 ((i : Int))), (12, .slice x19.p x19.l.length x19.c), (13, .int .i64 s), (15, .int .i64 x23), (39, .int .i64 (max rn 0)), (40, .int .i64 ((k : Int))), (56, .slice pz1 zz1.length cz1), (57, .int .i64 ((zz1.length : Int))), (58, .int .i64 ((i : Int))), (63, .slice x19.p x19.l.length x19.c), (64, .int .i64 ((x19.l.length : Int))), (65, .int .i64 ((j : Int))), (80, .bool true)] ⟨rfl, rfl, rfl, rfl, rfl, rfl, rfl, rfl, rfl, rfl, rfl, rfl, rfl, rfl, rfl, trivial⟩ ?_
       refine g_cond_t rfl rfl ?_
       refine w_s ?_
       refine w_a ?_
       refine w_e ?_
       refine g_weak [(6, .bool false)] ⟨rfl, trivial⟩ ?_
       refine g_ret ?_
       refine g_then_ret ?_
       refine g_in_ret ?_
       refine g_then_ret ?_
       refine g_then_ret ?_
       refine g_in_ret ?_
       refine g_then_ret ?_
       refine g_in_ret ?_
       refine g_then_ret ?_
       refine g_then_ret ?_
       refine g_in_ret ?_
       refine g_in_ret ?_
       refine g_then_ret ?_
       refine g_then_ret ?_
       refine g_in_ret ?_
       refine g_then_ret ?_
       refine fin_ret [.tmp 6] [.bool false] rfl ⟨rfl, trivial⟩ ?_
       exfalso
       first | omega | (have h9 := hownx23 (by omega); omega)
      ·
       refine w_g (decide_eq_false hb24) xm ?_
       refine w_g (decide_eq_false hb24) xm ?_
       refine w_g (decide_eq_false hb24) (x_bin rfl rfl rfl b_eql) ?_
       refine w_g (decide_eq_false hb24) xm ?_
       by_cases hb25 : ((j : Int) : Int) = (i : Int)
       ·
        refine w_g (decide_eq_true hb25) xm ?_
        refine w_g (v := .bool (!decide ((x23 : Int) = 0))) (decide_eq_true hb25) (x_bin rfl rfl rfl b_neq) ?_
        refine w_g (v := .bool (!decide ((x23 : Int) = 0))) (decide_eq_false hb24) (x_pick_t rfl rfl (decide_eq_true hb25) rfl) ?_
        refine w_v (v := .bool (!decide ((x23 : Int) = 0))) (x_pick_f rfl rfl (decide_eq_false hb24) rfl) ?_
        refine w_e ?_
        refine g_weak [(1, .slice p n c), (7, .pointer (some ⟨X.g, 0, none⟩)), (11, .int .i64 ((i : Int))), (12, .slice x19.p x19.l.length x19.c), (13, .int .i64 s), (15, .int .i64 x23), (39, .int .i64 (max rn 0)), (40, .int .i64 ((k : Int))), (56, .slice pz1 zz1.length cz1), (57, .int .i64 ((zz1.length : Int))), (58, .int .i64 ((i : Int))), (63, .slice x19.p x19.l.length x19.c), (64, .int .i64 ((x19.l.length : Int))), (65, .int .i64 ((j : Int))), (80, .bool (!decide ((x23 : Int) = 0)))] ⟨rfl, rfl, rfl, rfl, rfl, rfl, rfl, rfl, rfl, rfl, rfl, rfl, rfl, rfl, rfl, trivial⟩ ?_
        by_cases hb26 : (x23 : Int) = 0
        ·
         refine g_cond_f rfl (nf hb26) ?_
         refine g_skip ?_
         refine g_then ?_
         refine g_region ?_
         refine w_r2 ?_
         refine w_b (v := .int .i64 (s + x23)) (hb := (b_add (w64 (by omega)))) ?_
         refine w_a ?_
         refine g_nil ?_
         refine g_in ?_
         refine g_then ?_
         refine g_region ?_
         refine w_b (v := .int .i64 (((j + 1 : Nat) : Int))) (hb := (b_add (by rw [w64 (by omega)]; omega))) ?_
         refine w_m ?_
         refine w_e ?_
         refine g_round (i := (j, s)) ((j + 1), (s + x23)) ?_ ?_ ?_
         · exact ⟨rfl, rfl, rfl, rfl, rfl, rfl, rfl, rfl, rfl, rfl, rfl, rfl, rfl, trivial⟩
         · exact ⟨by omega, (by rw [sum_take hx23, ← hs]), (H21.takes [0, 1, 2, 3, 4] (by decide))⟩
         · (try dsimp only); omega
        ·
         refine g_cond_t rfl (nt hb26) ?_
         refine w_s ?_
         refine w_a ?_
         refine w_e ?_
         refine g_weak [(6, .bool false)] ⟨rfl, trivial⟩ ?_
         refine g_ret ?_
         refine g_then_ret ?_
         refine g_in_ret ?_
         refine g_then_ret ?_
         refine g_then_ret ?_
         refine g_in_ret ?_
         refine g_then_ret ?_
         refine g_in_ret ?_
         refine g_then_ret ?_
         refine g_then_ret ?_
         refine g_in_ret ?_
         refine g_in_ret ?_
         refine g_then_ret ?_
         refine g_then_ret ?_
         refine g_in_ret ?_
         refine g_then_ret ?_
         refine fin_ret [.tmp 6] [.bool false] rfl ⟨rfl, trivial⟩ ?_
         exfalso
         first | omega | (have h9 := hownx23 (by omega); omega)
       ·
        refine w_n (decide_eq_false hb25) ?_
        refine w_n (decide_eq_false hb25) ?_
        refine w_g (v := .bool false) (decide_eq_false hb24) (x_pick_f rfl rfl (decide_eq_false hb25) rfl) ?_
        refine w_v (v := .bool false) (x_pick_f rfl rfl (decide_eq_false hb24) rfl) ?_
        refine w_e ?_
        refine g_weak [(1, .slice p n c), (7, .pointer (some ⟨X.g, 0, none⟩)), (11, .int .i64 ((i : Int))), (12, .slice x19.p x19.l.length x19.c), (13, .int .i64 s), (15, .int .i64 x23), (39, .int .i64 (max rn 0)), (40, .int .i64 ((k : Int))), (56, .slice pz1 zz1.length cz1), (57, .int .i64 ((zz1.length : Int))), (58, .int .i64 ((i : Int))), (63, .slice x19.p x19.l.length x19.c), (64, .int .i64 ((x19.l.length : Int))), (65, .int .i64 ((j : Int))), (80, .bool false)] ⟨rfl, rfl, rfl, rfl, rfl, rfl, rfl, rfl, rfl, rfl, rfl, rfl, rfl, rfl, rfl, trivial⟩ ?_
        refine g_cond_f rfl rfl ?_
        refine g_skip ?_
        refine g_then ?_
        refine g_region ?_
        refine w_r2 ?_
        refine w_b (v := .int .i64 (s + x23)) (hb := (b_add (w64 (by omega)))) ?_
        refine w_a ?_
        refine g_nil ?_
        refine g_in ?_
        refine g_then ?_
        refine g_region ?_
        refine w_b (v := .int .i64 (((j + 1 : Nat) : Int))) (hb := (b_add (by rw [w64 (by omega)]; omega))) ?_
        refine w_m ?_
        refine w_e ?_
        refine g_round (i := (j, s)) ((j + 1), (s + x23)) ?_ ?_ ?_
        · exact ⟨rfl, rfl, rfl, rfl, rfl, rfl, rfl, rfl, rfl, rfl, rfl, rfl, rfl, trivial⟩
        · exact ⟨by omega, (by rw [sum_take hx23, ← hs]), (H21.takes [0, 1, 2, 3, 4] (by decide))⟩
        · (try dsimp only); omega
     ·
      refine g_cond_f rfl (decide_eq_false hb22) ?_
      refine g_exit ?_
      refine g_then_exit ?_
      refine g_then_exit ?_
      refine g_in_hit ?_
      refine g_then ?_
      refine w_s ?_
      rw [List.take_of_length_le (by omega)] at hs
      have hsum9 := hR9.sum
      refine w_m ?_
      refine w_v (v := .int .i64 ((x19.l.length : Int))) (x_lenl rfl rfl Tryz.underlying34) ?_
      refine w_m ?_
      refine w_v (v := .int .i64 ((n : Int))) (x_lenl rfl rfl Tryz.underlying22) ?_
      refine w_b (v := .bool (!decide (((x19.l.length : Int) : Int) = (n : Int)))) (hb := b_neq) ?_
      refine w_m ?_
      by_cases hb27 : ((x19.l.length : Int) : Int) = (n : Int)
      ·
       refine w_g (nf hb27) xm ?_
       refine w_g (nf hb27) xm ?_
       refine w_g (nf hb27) xm ?_
       refine w_g (v := .pointer ((p).map fun q => q.add (i * 2))) (nf hb27) (x_idxR i (H21.exReads (k := 4) rfl hr (fun _ _ _ h => h)) rfl rfl rfl Tryz.underlying22 sz33 (by omega)) ?_
       refine w_g (v := .pointer ((p).map fun q => q.add (i * 2 + 1))) (nf hb27) (ex_cast (x_fieldAddrG (m := i * 2) ((H21.exReads (k := 4) rfl hr (fun _ _ _ h => h)).some (by omega)) rfl rfl fo33_1) rfl) ?_
       have hlq := (H21.exReads (k := 4) rfl hr (fun _ _ _ h => h)).lenL plE
       obtain ⟨x28, hx28⟩ := ex_at (l := l) (j := i) (by omega)
       clear hlq
       have hxpx28 : x28 = pz := Option.some.inj (hx28.symm.trans hpz)
       have hxrx28 : x28.rt = pz.rt := by rw [hxpx28]
       refine w_g (v := .int .i64 (x28.rt)) (nf hb27) (x_loadF1 (i := 1) (j := i) plE (H21.exReads (k := 4) rfl hr (fun _ _ _ h => h)) hx28 rfl rfl Tryz.underlying3 rfl rfl) ?_
       refine w_g (nf hb27) (x_bin rfl rfl rfl b_gtr) ?_
       refine w_v (v := .bool (decide ((x28.rt : Int) < s))) (x_pick_f rfl rfl (nf hb27) rfl) ?_
       refine w_e ?_
       refine g_weak [(1, .slice p n c), (7, .pointer (some ⟨X.g, 0, none⟩)), (39, .int .i64 (max rn 0)), (40, .int .i64 ((k : Int))), (56, .slice pz1 zz1.length cz1), (57, .int .i64 ((zz1.length : Int))), (58, .int .i64 ((i : Int))), (98, .bool (decide ((x28.rt : Int) < s)))] ⟨rfl, rfl, rfl, rfl, rfl, rfl, rfl, rfl, trivial⟩ ?_
       by_cases hb29 : (x28.rt : Int) < s
       ·
        refine g_cond_t rfl (decide_eq_true hb29) ?_
        refine w_s ?_
        refine w_a ?_
        refine w_e ?_
        refine g_ret ?_
        refine g_in_ret ?_
        refine g_then_ret ?_
        refine g_then_ret ?_
        refine g_in_ret ?_
        refine g_in_ret ?_
        refine g_then_ret ?_
        refine g_then_ret ?_
        refine g_in_ret ?_
        refine g_then_ret ?_
        refine fin_ret [.tmp 6] [.bool false] rfl ⟨rfl, trivial⟩ ?_
        exfalso
        first | omega | (have h9 := hownx23 (by omega); omega)
       ·
        refine g_cond_f rfl (decide_eq_false hb29) ?_
        refine g_skip ?_
        refine g_in ?_
        refine g_then ?_
        refine g_region ?_
        refine w_b (v := .int .i64 (((i + 1 : Nat) : Int))) (hb := (b_add (by rw [w64 (by omega)]; omega))) ?_
        refine w_m ?_
        refine w_e ?_
        refine g_round (i := (i)) ((i + 1)) ?_ ?_ ?_
        · exact ⟨rfl, rfl, rfl, rfl, rfl, rfl, rfl, trivial⟩
        · exact ⟨by omega, (H21.takes [0, 1, 2, 3, 4] (by decide))⟩
        · (try dsimp only); omega
      ·
       refine w_n (nt hb27) ?_
       refine w_n (nt hb27) ?_
       refine w_n (nt hb27) ?_
       refine w_n (nt hb27) ?_
       refine w_n (nt hb27) ?_
       refine w_n (nt hb27) ?_
       refine w_n (nt hb27) ?_
       refine w_v (v := .bool true) (x_pick_t rfl rfl (nt hb27) rfl) ?_
       refine w_e ?_
       refine g_weak [(1, .slice p n c), (7, .pointer (some ⟨X.g, 0, none⟩)), (39, .int .i64 (max rn 0)), (40, .int .i64 ((k : Int))), (56, .slice pz1 zz1.length cz1), (57, .int .i64 ((zz1.length : Int))), (58, .int .i64 ((i : Int))), (98, .bool true)] ⟨rfl, rfl, rfl, rfl, rfl, rfl, rfl, rfl, trivial⟩ ?_
       refine g_cond_t rfl rfl ?_
       refine w_s ?_
       refine w_a ?_
       refine w_e ?_
       refine g_ret ?_
       refine g_in_ret ?_
       refine g_then_ret ?_
       refine g_then_ret ?_
       refine g_in_ret ?_
       refine g_in_ret ?_
       refine g_then_ret ?_
       refine g_then_ret ?_
       refine g_in_ret ?_
       refine g_then_ret ?_
       refine fin_ret [.tmp 6] [.bool false] rfl ⟨rfl, trivial⟩ ?_
       exfalso
       first | omega | (have h9 := hownx23 (by omega); omega)
    ·
     refine g_cond_f rfl (decide_eq_false hb18) ?_
     refine g_exit ?_
     refine g_then_exit ?_
     refine g_then_exit ?_
     refine g_in_hit ?_
     refine g_in ?_
     refine g_then ?_
     refine g_region ?_
     refine w_b (v := .int .i64 (((k + 1 : Nat) : Int))) (hb := (b_add (by rw [w64 (by omega)]; omega))) ?_
     refine w_m ?_
     refine w_e ?_
     refine g_round (i := (k, Y, pl2)) ((k + 1), X1, (pl2 ++ [rd1])) ?_ ?_ ?_
     · exact ⟨rfl, rfl, rfl, rfl, trivial⟩
     · exact ⟨(by omega), (by rw [hA1]; exact hYps), hg1, (by omega), hM1, (by rw [hA1]; exact sums_step hYM.ok hYS), (H17.takes [2, 3, 4] (by decide))⟩
     · (try dsimp only); omega
   ·
    refine g_cond_f rfl (decide_eq_false hb13) ?_
    refine g_exit ?_
    refine g_then_exit ?_
    refine g_then_exit ?_
    refine g_in_hit ?_
    refine g_then ?_
    refine w_s ?_
    refine w_r2 ?_
    refine w_e ?_
    refine g_seq ?_
    refine w_s ?_
    refine w_m ?_
    refine w_v (v := .int .i64 ((n : Int))) (x_lenl rfl rfl Tryz.underlying22) ?_
    refine w_m ?_
    refine w_e ?_
    refine g_block ?_
    refine g_loop (ι := Nat × Int × Int) (fun (i, a, b) => [(7, .pointer (some ⟨X.g, 0, none⟩)), (16, .int .i64 a), (17, .int .i64 b), (102, .int .i64 ((n : Int))), (103, .int .i64 ((i : Int)))]) (fun (i, a, b) wx => (i ≤ n) ∧ (a = sumI (Y.A.got.take i)) ∧ (b = sumI (Y.A.gave.take i)) ∧ S wx [(GM.I Y), (Pool pl2), Old w no]) (fun (i, a, b) => n - i) (0, 0, 0) ⟨rfl, rfl, rfl, rfl, rfl, trivial⟩ ⟨Nat.zero_le _, rfl, rfl, (H12.takes [0, 1, 2] (by decide))⟩ ?_
    rintro ⟨i, a, b⟩ wq30 ⟨hi, ha, hb, H31⟩
    refine g_weak [(7, .pointer (some ⟨X.g, 0, none⟩)), (16, .int .i64 a), (17, .int .i64 b), (102, .int .i64 ((n : Int))), (103, .int .i64 ((i : Int)))] ⟨rfl, rfl, rfl, rfl, rfl, trivial⟩ ?_
    refine w_s ?_
    refine w_b ?_
    refine w_e ?_
    refine g_seq ?_
    by_cases hb32 : ((i : Int) : Int) < (n : Int)
    ·
     refine g_cond_t rfl (decide_eq_true hb32) ?_
     refine g_skip ?_
     refine g_then ?_
     refine g_seq ?_
     refine g_block ?_
     refine w_s ?_
     refine w_r2 ?_
     refine w_e ?_
     refine w_s ?_
     refine w_r2 ?_
     have hgl9 : Y.A.got.length = l.length := by rw [hYM.ok.gt.1, hYps]
     obtain ⟨va, hva⟩ := ex_at (l := Y.A.got) (j := i) (by omega)
     have hkk9 : (Y.A.gv.length : Int) = k := by rw [hYM.gvl, hYl]
     have hvb9 := hYM.ok.gt.2.at hva
     have hsa9 := sum_partG (j := i) hYM.ok.gt.2 (by omega) (by omega)
     rw [← ha] at hsa9
     refine l_of (s_call (wt0 rfl) (x_call' rfl rfl cl10) (got_at hYM.ok hYg (i : Int) ⟨by omega, by rw [Int.toNat_natCast]; exact hva⟩ (H31.takes [0] (by decide))) ?_)
     rintro _ wq33 ⟨rfl, H34⟩
     replace H34 : S wq33 [(GM.I Y), (Pool pl2), Old w no] := by have h := H31.absorbI [0] H34; exact h
     refine b_ret rfl rfl ?_
     refine w_r5 ?_
     refine w_e ?_
     refine w_s ?_
     refine w_r2 ?_
     have hvl9 : Y.A.gave.length = l.length := by rw [hYM.ok.gg.1, hYps]
     obtain ⟨vb, hvb⟩ := ex_at (l := Y.A.gave) (j := i) (by omega)
     have hvc9 := hYM.ok.gg.2.at hvb
     have hsb9 := sum_partG (j := i) hYM.ok.gg.2 (by omega) (by omega)
     rw [← hb] at hsb9
     refine l_of (s_call (wt0 rfl) (x_call' rfl rfl cl11) (gave_at hYM.ok hYg (i : Int) ⟨by omega, by rw [Int.toNat_natCast]; exact hvb⟩ (H34.takes [0] (by decide))) ?_)
     rintro _ wq35 ⟨rfl, H36⟩
     replace H36 : S wq35 [(GM.I Y), (Pool pl2), Old w no] := by have h := H34.absorbI [0] H36; exact h
     refine b_ret rfl rfl ?_
     refine w_r5 ?_
     refine w_e ?_
     refine g_weak [(7, .pointer (some ⟨X.g, 0, none⟩)), (16, .int .i64 a), (17, .int .i64 b), (19, .int .i64 va), (20, .int .i64 0), (21, .int .i64 vb), (22, .int .i64 0), (102, .int .i64 ((n : Int))), (103, .int .i64 ((i : Int)))] ⟨rfl, rfl, rfl, rfl, rfl, rfl, rfl, rfl, rfl, trivial⟩ ?_
     refine g_seq ?_
     refine w_s ?_
     refine w_m ?_
     refine w_b (v := .bool (!decide ((0 : Int) = 0))) (hb := b_neq) ?_
     refine w_m ?_
     refine w_g (nf rfl) xm ?_
     refine w_g (v := .bool (!decide ((0 : Int) = 0))) (nf rfl) (x_bin rfl rfl rfl b_neq) ?_
     refine w_v (v := .bool (!decide ((0 : Int) = 0))) (x_pick_f rfl rfl (nf rfl) rfl) ?_
     refine w_e ?_
     refine g_cond_f rfl (nf rfl) ?_
     refine g_skip ?_
     refine g_then ?_
     refine g_region ?_
     refine w_r2 ?_
     refine w_b (v := .int .i64 (a + va)) (hb := (b_add (w64 (by omega)))) ?_
     refine w_r2 ?_
     refine w_b (v := .int .i64 (b + vb)) (hb := (b_add (w64 (by omega)))) ?_
     refine w_r2 ?_
     refine g_nil ?_
     refine g_in ?_
     refine g_then ?_
     refine g_weak [(7, .pointer (some ⟨X.g, 0, none⟩)), (16, .int .i64 (a + va)), (17, .int .i64 (b + vb)), (102, .int .i64 ((n : Int))), (103, .int .i64 ((i : Int)))] ⟨rfl, rfl, rfl, rfl, rfl, trivial⟩ ?_
     refine g_region ?_
     refine w_b (v := .int .i64 (((i + 1 : Nat) : Int))) (hb := (b_add (by rw [w64 (by omega)]; omega))) ?_
     refine w_m ?_
     refine w_e ?_
     refine g_round (i := (i, a, b)) ((i + 1), (a + va), (b + vb)) ?_ ?_ ?_
     · exact ⟨rfl, rfl, rfl, rfl, rfl, trivial⟩
     · exact ⟨by omega, (by rw [sum_take hva, ← ha]), (by rw [sum_take hvb, ← hb]), (H36.takes [0, 1, 2] (by decide))⟩
     · (try dsimp only); omega
    ·
     refine g_cond_f rfl (decide_eq_false hb32) ?_
     refine g_exit ?_
     refine g_then_exit ?_
     refine g_then_exit ?_
     refine g_in_hit ?_
     refine g_then ?_
     refine w_s ?_
     rw [List.take_of_length_le (by rw [hYM.ok.gt.1, hYps]; omega)] at ha
     rw [List.take_of_length_le (by rw [hYM.ok.gg.1, hYps]; omega)] at hb
     have hab : a = b := by rw [ha, hb, hYS]
     refine w_r2 ?_
     refine w_b ?_
     refine w_m ?_
     by_cases hb37 : (a : Int) = b
     ·
      refine l_of (s_call0 H31 (wt1 rfl rfl rfl rfl (decide_eq_true hb37)) (x_call' rfl rfl cl7) (awake_s _) rfl rfl ?_)
      intro wq38 H39
      refine w_v (v := .bool true) (x_pick_t rfl rfl (decide_eq_true hb37) rfl) ?_
      refine w_a ?_
      refine w_e ?_
      refine g_weak [(6, .bool true)] ⟨rfl, trivial⟩ ?_
      refine g_ret ?_
      refine fin_ret [.tmp 6] [.bool true] rfl ⟨rfl, trivial⟩ ?_
      exact ⟨rfl, H39.mask [false, false, true]⟩
     ·
      refine w_n (decide_eq_false hb37) ?_
      refine w_v (v := .bool false) (x_pick_f rfl rfl (decide_eq_false hb37) rfl) ?_
      refine w_a ?_
      refine w_e ?_
      refine g_weak [(6, .bool false)] ⟨rfl, trivial⟩ ?_
      refine g_ret ?_
      refine fin_ret [.tmp 6] [.bool false] rfl ⟨rfl, trivial⟩ ?_
      exfalso
      first | omega | (have h9 := hownx23 (by omega); omega)
 ·
  refine g_cond_t rfl (nt hb3) ?_
  refine w_s ?_
  refine l_of (s_call0 H2 (wt0 rfl) (x_call' rfl rfl cl7) (awake_s _) rfl rfl ?_)
  intro wq40 H41
  refine w_a ?_
  refine w_e ?_
  refine g_ret ?_
  refine g_then_ret ?_
  refine fin_ret [.tmp 6] [.bool true] rfl ⟨rfl, trivial⟩ ?_
  exact ⟨rfl, H41.mask [true]⟩
end Go.Proofs.YtpbjekdjebjbkaaGreat
