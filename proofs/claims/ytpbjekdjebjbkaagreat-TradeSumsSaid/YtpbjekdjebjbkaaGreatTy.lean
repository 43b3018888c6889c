import Derived.Test.YtpbjekdjebjbkaaGreatFk
import Derived.Test.YtpbjekdjebjbkaaGreatTx
set_option linter.unusedSimpArgs false
set_option linter.unusedVariables false
namespace Go.Proofs.YtpbjekdjebjbkaaGreat
open Go.RowKit

theorem cl10 : callable Tryz.prog 10 = true := by kernel_rfl
theorem cl12 : callable Tryz.prog 12 = true := by kernel_rfl
theorem cl6 : callable Tryz.prog 6 = true := by kernel_rfl
theorem cl7 : callable Tryz.prog 7 = true := by kernel_rfl
theorem cl8 : callable Tryz.prog 8 = true := by kernel_rfl
theorem got_at {w : World} {X : GM} {g0 : Nat} (h : GOK X.A) (hg : X.g = g0) (i : Int) {v : Int} (hv : 0 ≤ i ∧ X.A.got[i.toNat]? = some v) (HS : S w [X.I]) : Calls Tryz.prog 10 #[.pointer (some ⟨g0, 0, none⟩), .int .i64 i] w fun e w' => e = .returned (.tuple #[.int .i64 v, .int .i64 0]) ∧ S w' ([X.I] ++ [Old w (fps [X.I])]) := by
  have hi := (List.getElem?_eq_some_iff.1 hv.2).1
  rw [h.gt.1] at hi
  have h1 := got_g h hg i HS
  rw [askN_0.2 (fun x hx => by rw [List.mem_singleton.1 hx]; omega), if_pos rfl, getD_atT hv.2] at h1
  exact h1
theorem gave_at {w : World} {X : GM} {g0 : Nat} (h : GOK X.A) (hg : X.g = g0) (i : Int) {v : Int} (hv : 0 ≤ i ∧ X.A.gave[i.toNat]? = some v) (HS : S w [X.I]) : Calls Tryz.prog 11 #[.pointer (some ⟨g0, 0, none⟩), .int .i64 i] w fun e w' => e = .returned (.tuple #[.int .i64 v, .int .i64 0]) ∧ S w' ([X.I] ++ [Old w (fps [X.I])]) := by
  have hi := (List.getElem?_eq_some_iff.1 hv.2).1
  rw [h.gg.1] at hi
  have h1 := gave_g h hg i HS
  rw [askN_0.2 (fun x hx => by rw [List.mem_singleton.1 hx]; omega), if_pos rfl, getD_atT hv.2] at h1
  exact h1
theorem RowB.own_at {n : Nat} {i : Nat} {B : Int} {o : List Int} (h : RowB n (i : Int) B o) (hi : i < n) {j : Nat} {v : Int} (hv : o[j]? = some v) (hji : (j : Int) = (i : Int)) : v = 0 := by
  have e : j = i := by omega
  subst e
  rcases h.own with h1 | h1
  · rw [Int.toNat_natCast, hv] at h1
    exact Option.some.inj h1
  · omega
set_option maxRecDepth 20000 in
set_option maxHeartbeats 4000000 in
theorem light_s (sd : ByteArray) (l : List Pl) (p : Option Addr) (n c : Nat) (rn : Int)  (w : World) : Calls Tryz.prog 6 #[.string sd, .slice p n c, .int .i64 rn] w fun e w' => e = .returned (.bool (decide (n ≤ 9 ∧ sd.size ≤ 120 ∧ rn ≤ 30))) ∧ S w' [Old w no] := by
 have H0 := S.old w
 refine enter 19 Tryz.func6 rfl rfl rfl ?_
 refine g_weak [(0, .string sd), (1, .slice p n c), (2, .int .i64 rn)] ⟨rfl, rfl, rfl, trivial⟩ ?_
 refine w_s ?_
 refine w_a ?_
 refine w_e ?_
 refine w_s ?_
 refine w_m ?_
 refine w_v (v := .int .i64 ((n : Int))) (x_lenl rfl rfl Tryz.underlying22) ?_
 refine w_b ?_
 refine w_m ?_
 by_cases hb1 : ((n : Int) : Int) ≤ 9
 ·
  refine w_g (decide_eq_true hb1) xm ?_
  refine w_g (v := .int .i64 ((sd.size : Int))) (decide_eq_true hb1) (x_lens rfl rfl Tryz.underlying9) ?_
  refine w_g (decide_eq_true hb1) (x_bin rfl rfl rfl b_leq) ?_
  refine w_v (v := .bool (decide (((sd.size : Int) : Int) ≤ 120))) (x_pick_t rfl rfl (decide_eq_true hb1) rfl) ?_
  refine w_m ?_
  by_cases hb2 : ((sd.size : Int) : Int) ≤ 120
  ·
   refine w_g (decide_eq_true hb2) xm ?_
   refine w_g (decide_eq_true hb2) (x_bin rfl rfl rfl b_leq) ?_
   refine w_v (v := .bool (decide ((rn : Int) ≤ 30))) (x_pick_t rfl rfl (decide_eq_true hb2) rfl) ?_
   refine w_a ?_
   refine w_e ?_
   refine g_weak [(6, .bool (decide ((rn : Int) ≤ 30)))] ⟨rfl, trivial⟩ ?_
   refine g_ret ?_
   refine fin_ret [.tmp 6] [.bool (decide ((rn : Int) ≤ 30))] rfl ⟨rfl, trivial⟩ ?_
   exact ⟨by first | (rw [decide_eq_true (show (n ≤ 9 ∧ sd.size ≤ 120 ∧ rn ≤ 30) from ⟨by omega, by omega, by omega⟩)]; rfl) | (rw [decide_eq_false (show ¬ (n ≤ 9 ∧ sd.size ≤ 120 ∧ rn ≤ 30) from fun h => by omega)]; rfl) | (rw [decide_eq_decide.2 (show (n ≤ 9 ∧ sd.size ≤ 120 ∧ rn ≤ 30) ↔ rn ≤ 30 from ⟨fun h => h.2.2, fun h => ⟨by omega, by omega, h⟩⟩)]; rfl), H0.mask [true]⟩
  ·
   refine w_n (decide_eq_false hb2) ?_
   refine w_n (decide_eq_false hb2) ?_
   refine w_v (v := .bool false) (x_pick_f rfl rfl (decide_eq_false hb2) rfl) ?_
   refine w_a ?_
   refine w_e ?_
   refine g_weak [(6, .bool false)] ⟨rfl, trivial⟩ ?_
   refine g_ret ?_
   refine fin_ret [.tmp 6] [.bool false] rfl ⟨rfl, trivial⟩ ?_
   exact ⟨by first | (rw [decide_eq_true (show (n ≤ 9 ∧ sd.size ≤ 120 ∧ rn ≤ 30) from ⟨by omega, by omega, by omega⟩)]; rfl) | (rw [decide_eq_false (show ¬ (n ≤ 9 ∧ sd.size ≤ 120 ∧ rn ≤ 30) from fun h => by omega)]; rfl) | (rw [decide_eq_decide.2 (show (n ≤ 9 ∧ sd.size ≤ 120 ∧ rn ≤ 30) ↔ rn ≤ 30 from ⟨fun h => h.2.2, fun h => ⟨by omega, by omega, h⟩⟩)]; rfl), H0.mask [true]⟩
 ·
  refine w_n (decide_eq_false hb1) ?_
  refine w_n (decide_eq_false hb1) ?_
  refine w_n (decide_eq_false hb1) ?_
  refine w_v (v := .bool false) (x_pick_f rfl rfl (decide_eq_false hb1) rfl) ?_
  refine w_m ?_
  refine w_n rfl ?_
  refine w_n rfl ?_
  refine w_v (v := .bool false) (x_pick_f rfl rfl rfl rfl) ?_
  refine w_a ?_
  refine w_e ?_
  refine g_weak [(6, .bool false)] ⟨rfl, trivial⟩ ?_
  refine g_ret ?_
  refine fin_ret [.tmp 6] [.bool false] rfl ⟨rfl, trivial⟩ ?_
  exact ⟨by first | (rw [decide_eq_true (show (n ≤ 9 ∧ sd.size ≤ 120 ∧ rn ≤ 30) from ⟨by omega, by omega, by omega⟩)]; rfl) | (rw [decide_eq_false (show ¬ (n ≤ 9 ∧ sd.size ≤ 120 ∧ rn ≤ 30) from fun h => by omega)]; rfl) | (rw [decide_eq_decide.2 (show (n ≤ 9 ∧ sd.size ≤ 120 ∧ rn ≤ 30) ↔ rn ≤ 30 from ⟨fun h => h.2.2, fun h => ⟨by omega, by omega, h⟩⟩)]; rfl), H0.mask [true]⟩
set_option maxRecDepth 20000 in
set_option maxHeartbeats 4000000 in
theorem awake_s  (w : World) : Calls Tryz.prog 7 #[] w fun e w' => e = .returned (.bool true) ∧ S w' [Old w no] := by
 have H0 := S.old w
 refine enter 50 Tryz.func7 rfl rfl rfl ?_
 refine g_weak [] trivial ?_
 refine w_s ?_
 refine w_a ?_
 refine w_e ?_
 refine w_s ?_
 refine w_v (v := .agg #[.int .i64 3, .int .i64 10]) (x_build (vs := [.int .i64 3, .int .i64 10]) rfl rfl (cells := #[.int .i64 3, .int .i64 10]) (by kernel_rfl)) ?_
 refine w_v (v := .agg #[.int .i64 3, .int .i64 20]) (x_build (vs := [.int .i64 3, .int .i64 20]) rfl rfl (cells := #[.int .i64 3, .int .i64 20]) (by kernel_rfl)) ?_
 refine l_of (s_buildSlice H0 (wt0 rfl) rfl rfl rfl (vs := [.agg #[.int .i64 3, .int .i64 10], .agg #[.int .i64 3, .int .i64 20]]) rfl Tryz.underlying22 sz33 ze33 rfl rfl (cells := #[.int .i64 3, .int .i64 10, .int .i64 3, .int .i64 20]) (by kernel_rfl) ?_)
 intro g1 wq2 H3
 have H4 : S wq2 [Rw 33 2 (some ⟨g1, 0, none⟩) 2 2 (fl plL ([(⟨3, 10⟩ : Pl), (⟨3, 20⟩ : Pl)])), Old w no] := S.obFl plE H3 (k := 0) rfl rfl (by decide) rfl
 refine l_of (s_call (wt0 rfl) (x_call' rfl rfl cl8) (new_any (⟨#[]⟩ : ByteArray) ([(⟨3, 10⟩ : Pl), (⟨3, 20⟩ : Pl)]) (some ⟨g1, 0, none⟩) 2 2 (by decide) _ (H4.rwReads (k := 0) rfl)) ?_)
 rintro ee7 wq5 hor8
 rcases hor8 with ⟨rfl, hEX, H6⟩ | ⟨X, rfl, hEX, hAX, hMX, hlX, H6⟩
 ·
  exact absurd ex_newE hEX
 ·
  replace H6 : S wq5 [(GM.I X), Rw 33 2 (some ⟨g1, 0, none⟩) 2 2 (fl plL ([(⟨3, 10⟩ : Pl), (⟨3, 20⟩ : Pl)])), Old w no] := H4.absorb (new := [(GM.I X)]) H6
  have H9 : S wq5 [(Pool []), (GM.I X), Rw 33 2 (some ⟨g1, 0, none⟩) 2 2 (fl plL ([(⟨3, 10⟩ : Pl), (⟨3, 20⟩ : Pl)])), Old w no] := S.lstNil H6 RdI
  refine b_ret rfl rfl ?_
  refine w_r5 ?_
  refine w_e ?_
  refine g_seq ?_
  refine w_s ?_
  refine w_m ?_
  refine w_b (v := .bool (!decide ((0 : Int) = 0))) (hb := b_neq) ?_
  refine w_m ?_
  refine w_g (nf rfl) xm ?_
  refine w_g (v := .bool false) (nf rfl) (x_bin rfl rfl rfl (b_eqN (r := false) Tryz.underlying25 rfl)) ?_
  refine w_v (v := .bool false) (x_pick_f rfl rfl (nf rfl) rfl) ?_
  refine w_e ?_
  refine g_weak [(1, .pointer (some ⟨X.g, 0, none⟩)), (19, .bool false)] ⟨rfl, rfl, trivial⟩ ?_
  refine g_cond_f rfl rfl ?_
  refine g_skip ?_
  refine g_then ?_
  refine w_s ?_
  refine w_m ?_
  refine l_of (s_call (wt0 rfl) (x_call' rfl rfl cl12) (play_g hMX 1 (by decide) (by rw [hlX]; decide) rfl (H9.takes [1, 0] (by decide))) ?_)
  rintro _ wq10 ⟨X2, pl2, rfl, hA2, hg2, hl2, hM2, hp2, H11⟩
  replace H11 : S wq10 [(GM.I X2), (Pool pl2), Rw 33 2 (some ⟨g1, 0, none⟩) 2 2 (fl plL ([(⟨3, 10⟩ : Pl), (⟨3, 20⟩ : Pl)])), Old w no] := by have h := H9.absorbI [1, 0] H11; exact h
  refine b_ret rfl rfl ?_
  refine w_a ?_
  refine w_e ?_
  refine w_s ?_
  refine w_m ?_
  refine l_of (s_call (wt0 rfl) (x_call' rfl rfl cl10) (got_at hM2.ok hg2 0 (v := 20) ⟨by decide, by rw [hA2, hAX]; exact (congrArg (fun l : List Int => l[0]?) ex_got)⟩ (H11.takes [0] (by decide))) ?_)
  rintro _ wq12 ⟨rfl, H13⟩
  replace H13 : S wq12 [(GM.I X2), (Pool pl2), Rw 33 2 (some ⟨g1, 0, none⟩) 2 2 (fl plL ([(⟨3, 10⟩ : Pl), (⟨3, 20⟩ : Pl)])), Old w no] := by have h := H11.absorbI [0] H13; exact h
  refine b_ret rfl rfl ?_
  refine w_r5 ?_
  refine w_e ?_
  refine w_s ?_
  refine w_m ?_
  refine l_of (s_call (wt0 rfl) (x_call' rfl rfl cl10) (got_at hM2.ok hg2 1 (v := 10) ⟨by decide, by rw [hA2, hAX]; exact (congrArg (fun l : List Int => l[1]?) ex_got)⟩ (H13.takes [0] (by decide))) ?_)
  rintro _ wq14 ⟨rfl, H15⟩
  replace H15 : S wq14 [(GM.I X2), (Pool pl2), Rw 33 2 (some ⟨g1, 0, none⟩) 2 2 (fl plL ([(⟨3, 10⟩ : Pl), (⟨3, 20⟩ : Pl)])), Old w no] := by have h := H13.absorbI [0] H15; exact h
  refine b_ret rfl rfl ?_
  refine w_r5 ?_
  refine w_e ?_
  refine g_weak [(2, .int .i64 0), (3, .int .i64 20), (4, .int .i64 0), (5, .int .i64 10), (6, .int .i64 0)] ⟨rfl, rfl, rfl, rfl, rfl, trivial⟩ ?_
  refine w_s ?_
  refine w_m ?_
  refine w_b ?_
  refine w_m ?_
  refine w_g (decide_eq_true rfl) xm ?_
  refine w_g (decide_eq_true rfl) (x_bin rfl rfl rfl b_eql) ?_
  refine w_v (v := .bool (decide ((0 : Int) = 0))) (x_pick_t rfl rfl (decide_eq_true rfl) rfl) ?_
  refine w_m ?_
  refine w_g (decide_eq_true rfl) xm ?_
  refine w_g (decide_eq_true rfl) (x_bin rfl rfl rfl b_eql) ?_
  refine w_v (v := .bool (decide ((0 : Int) = 0))) (x_pick_t rfl rfl (decide_eq_true rfl) rfl) ?_
  refine w_m ?_
  refine w_g (decide_eq_true rfl) xm ?_
  refine w_g (decide_eq_true rfl) (x_bin rfl rfl rfl b_eql) ?_
  refine w_v (v := .bool (decide ((20 : Int) = 20))) (x_pick_t rfl rfl (decide_eq_true rfl) rfl) ?_
  refine w_m ?_
  refine w_g (decide_eq_true rfl) xm ?_
  refine w_g (decide_eq_true rfl) (x_bin rfl rfl rfl b_eql) ?_
  refine w_v (v := .bool (decide ((10 : Int) = 10))) (x_pick_t rfl rfl (decide_eq_true rfl) rfl) ?_
  refine w_a ?_
  refine w_e ?_
  refine g_weak [(0, .bool (decide ((10 : Int) = 10)))] ⟨rfl, trivial⟩ ?_
  refine g_ret ?_
  refine fin_ret [.tmp 0] [.bool (decide ((10 : Int) = 10))] rfl ⟨rfl, trivial⟩ ?_
  exact ⟨rfl, H15.mask [false, false, false, true]⟩
set_option maxRecDepth 20000 in
set_option maxHeartbeats 4000000 in
theorem free_law (sd : ByteArray) (l : List Pl) (p : Option Addr) (n c : Nat) (hn2 : n ≤ 9223372036854775807) (rn : Int)  (w : World) (hr : Reads w p n c 2 (fl plL l)) : Calls Tryz.prog 3 #[.string sd, .slice p n c, .int .i64 rn] w fun e w' => e = .returned (.bool true) ∧ S w' [Old w no] := by
 have H0 := S.old w
 have hnl := hr.lenL plE
 refine enter 116 Tryz.func3 rfl rfl rfl ?_
 refine g_weak [(0, .string sd), (1, .slice p n c), (2, .int .i64 rn)] ⟨rfl, rfl, rfl, trivial⟩ ?_
 refine w_s ?_
 refine w_a ?_
 refine w_e ?_
 refine g_seq ?_
 refine w_s ?_
 refine w_r3 ?_
 refine l_of (s_call0 H0 (wt0 rfl) (x_call' rfl rfl cl6) (light_s sd l p n c rn _) rfl rfl ?_)
 intro wq1 H2
 refine w_v (v := .bool (!decide (n ≤ 9 ∧ sd.size ≤ 120 ∧ rn ≤ 30))) (x_not (b := decide (n ≤ 9 ∧ sd.size ≤ 120 ∧ rn ≤ 30)) rfl rfl) ?_
 refine w_e ?_
 by_cases hb3 : (n ≤ 9 ∧ sd.size ≤ 120 ∧ rn ≤ 30)
 ·
  refine g_cond_f rfl (nf hb3) ?_
  refine g_skip ?_
  refine g_then ?_
  refine w_s ?_
  refine w_r2 ?_
  refine l_of (s_call (wt0 rfl) (x_call' rfl rfl cl8) (new_any sd l p n c (by omega) _ (H2.exReads (k := 0) rfl hr (fun _ _ _ h => h))) ?_)
  rintro ee6 wq4 hor7
  rcases hor7 with ⟨rfl, hEX, H5⟩ | ⟨X, rfl, hEX, hAX, hMX, hlX, H5⟩
  ·
   replace H5 : S wq4 [Old w no] := H2.absorb (new := []) H5
   refine b_ret rfl rfl ?_
   refine w_r5 ?_
   refine w_e ?_
   refine g_weak [(1, .slice p n c), (2, .int .i64 rn), (7, .pointer none), (8, .int .i64 ((newE sd l)))] ⟨rfl, rfl, rfl, rfl, trivial⟩ ?_
   refine g_seq ?_
   refine w_s ?_
   refine w_m ?_
   refine w_b (v := .bool (!decide (((newE sd l) : Int) = 0))) (hb := b_neq) ?_
   refine w_e ?_
   refine g_cond_t rfl (nt hEX) ?_
   refine w_s ?_
   refine l_of (s_call0 H5 (wt0 rfl) (x_call' rfl rfl cl7) (awake_s _) rfl rfl ?_)
   intro wq8 H9
   refine w_a ?_
   refine w_e ?_
   refine g_ret ?_
   refine g_then_ret ?_
   refine fin_ret [.tmp 6] [.bool true] rfl ⟨rfl, trivial⟩ ?_
   exact ⟨rfl, H9.mask [true]⟩
  ·
   replace H5 : S wq4 [(GM.I X), Old w no] := H2.absorb (new := [(GM.I X)]) H5
   have H10 : S wq4 [(Pool []), (GM.I X), Old w no] := S.lstNil H5 RdI
   refine b_ret rfl rfl ?_
   refine w_r5 ?_
   refine w_e ?_
   refine g_weak [(1, .slice p n c), (2, .int .i64 rn), (7, .pointer (some ⟨X.g, 0, none⟩)), (8, .int .i64 0)] ⟨rfl, rfl, rfl, rfl, trivial⟩ ?_
   refine g_seq ?_
   refine w_s ?_
   refine w_m ?_
   refine w_b (v := .bool (!decide ((0 : Int) = 0))) (hb := b_neq) ?_
   refine w_e ?_
   refine g_cond_f rfl (nf rfl) ?_
   refine g_skip ?_
   refine g_then ?_
   refine g_seq ?_
   refine w_s ?_
   refine w_m ?_
   refine w_v (v := .int .i64 (max rn 0)) (x_max rfl rfl rfl) ?_
   refine w_m ?_
   refine w_e ?_
   refine g_block ?_
   refine g_loop (ι := Nat × GM × List Rd) (fun (k, Y, pl2) => [(1, .slice p n c), (7, .pointer (some ⟨X.g, 0, none⟩)), (32, .int .i64 (max rn 0)), (33, .int .i64 ((k : Int)))]) (fun (k, Y, pl2) wx => ((k : Int) ≤ max rn 0) ∧ (Y.A.ps = l) ∧ (Y.g = X.g) ∧ (Y.gs.length = k) ∧ (MOK pl2 Y) ∧ (FreeInv Y.A) ∧ S wx [(GM.I Y), (Pool pl2), Old w no]) (fun (k, Y, pl2) => (max rn 0).toNat - k) (0, X, []) ⟨rfl, rfl, rfl, rfl, trivial⟩ ⟨(by omega), (by rw [hAX]; rfl), rfl, hlX, hMX, (by rw [hAX]; exact fun r hr => absurd hr List.not_mem_nil), (H10.takes [1, 0, 2] (by decide))⟩ ?_
   rintro ⟨k, Y, pl2⟩ wq11 ⟨hk, hYps, hYg, hYl, hYM, hYF, H12⟩
   refine g_weak [(1, .slice p n c), (7, .pointer (some ⟨X.g, 0, none⟩)), (32, .int .i64 (max rn 0)), (33, .int .i64 ((k : Int)))] ⟨rfl, rfl, rfl, rfl, trivial⟩ ?_
   refine w_s ?_
   refine w_b ?_
   refine w_e ?_
   refine g_seq ?_
   by_cases hb13 : ((k : Int) : Int) < max rn 0
   ·
    refine g_cond_t rfl (decide_eq_true hb13) ?_
    refine g_skip ?_
    refine g_then ?_
    refine g_seq ?_
    refine g_block ?_
    refine w_s ?_
    refine w_r2 ?_
    refine w_e ?_
    refine w_s ?_
    refine w_m ?_
    refine l_of (s_call (wt0 rfl) (x_call' rfl rfl cl9) (round_g hYM (by omega) hYg (H12.takes [0, 1] (by decide))) ?_)
    rintro _ wq14 ⟨pz1, cz1, zz1, X1, rd1, rfl, hzz1, hA1, hg1, hl1, hM1, H15⟩
    replace H15 : S wq14 [Rw 34 1 pz1 zz1.length cz1 (fl rowL zz1), (Lst BwI zz1), (GM.I X1), (Pool (pl2 ++ [rd1])), Old w no] := by have h := H12.absorbI [0, 1] H15; exact h
    refine b_ret rfl rfl ?_
    have hzl1 : zz1.length = l.length := by rw [zz_len hzz1, hYps]
    refine w_r5 ?_
    refine w_e ?_
    refine g_seq ?_
    refine w_s ?_
    refine w_m ?_
    refine w_b (v := .bool (!decide ((0 : Int) = 0))) (hb := b_neq) ?_
    refine w_m ?_
    refine w_g (nf rfl) xm ?_
    refine w_g (v := .int .i64 ((zz1.length : Int))) (nf rfl) (x_lenl rfl rfl Tryz.underlying29) ?_
    refine w_g (nf rfl) xm ?_
    refine w_g (v := .int .i64 ((n : Int))) (nf rfl) (x_lenl rfl rfl Tryz.underlying22) ?_
    refine w_g (v := .bool (!decide (((zz1.length : Int) : Int) = (n : Int)))) (nf rfl) (x_bin rfl rfl rfl b_neq) ?_
    refine w_v (v := .bool (!decide (((zz1.length : Int) : Int) = (n : Int)))) (x_pick_f rfl rfl (nf rfl) rfl) ?_
    refine w_e ?_
    refine g_weak [(1, .slice p n c), (7, .pointer (some ⟨X.g, 0, none⟩)), (9, .int .i64 ((k : Int))), (10, .slice pz1 zz1.length cz1), (32, .int .i64 (max rn 0)), (33, .int .i64 ((k : Int))), (49, .bool (!decide (((zz1.length : Int) : Int) = (n : Int))))] ⟨rfl, rfl, rfl, rfl, rfl, rfl, rfl, trivial⟩ ?_
    refine g_cond_f rfl (nf (by omega)) ?_
    refine g_skip ?_
    refine g_then ?_
    refine w_s ?_
    refine w_m ?_
    refine w_v (v := .int .i64 ((n : Int))) (x_lenl rfl rfl Tryz.underlying22) ?_
    refine w_m ?_
    refine w_e ?_
    refine g_block ?_
    refine g_loop (ι := Nat) (fun i => [(1, .slice p n c), (7, .pointer (some ⟨X.g, 0, none⟩)), (9, .int .i64 ((k : Int))), (10, .slice pz1 zz1.length cz1), (32, .int .i64 (max rn 0)), (33, .int .i64 ((k : Int))), (50, .slice p n c), (51, .int .i64 ((n : Int))), (52, .int .i64 ((i : Int)))]) (fun i wx => (i ≤ n) ∧ S wx [Rw 34 1 pz1 zz1.length cz1 (fl rowL zz1), (Lst BwI zz1), (GM.I X1), (Pool (pl2 ++ [rd1])), Old w no]) (fun i => n - i) (0) ⟨rfl, rfl, rfl, rfl, rfl, rfl, rfl, rfl, rfl, trivial⟩ ⟨Nat.zero_le _, (H15.takes [0, 1, 2, 3, 4] (by decide))⟩ ?_
    rintro i wq16 ⟨hi, H17⟩
    refine g_weak [(1, .slice p n c), (7, .pointer (some ⟨X.g, 0, none⟩)), (9, .int .i64 ((k : Int))), (10, .slice pz1 zz1.length cz1), (32, .int .i64 (max rn 0)), (33, .int .i64 ((k : Int))), (50, .slice p n c), (51, .int .i64 ((n : Int))), (52, .int .i64 ((i : Int)))] ⟨rfl, rfl, rfl, rfl, rfl, rfl, rfl, rfl, rfl, trivial⟩ ?_
    refine w_s ?_
    refine w_b ?_
    refine w_e ?_
    refine g_seq ?_
    by_cases hb18 : ((i : Int) : Int) < (n : Int)
    ·
     refine g_cond_t rfl (decide_eq_true hb18) ?_
     refine g_skip ?_
     refine g_then ?_
     refine g_seq ?_
     refine g_block ?_
     refine w_s ?_
     refine w_m ?_
     refine w_v (v := .pointer ((p).map fun q => q.add (i * 2))) (x_idxR i (H17.exReads (k := 4) rfl hr (fun _ _ _ h => h)) rfl rfl rfl Tryz.underlying22 sz33 (by omega)) ?_
     have hlq := (H17.exReads (k := 4) rfl hr (fun _ _ _ h => h)).lenL plE
     obtain ⟨x19, hx19⟩ := ex_at (l := l) (j := i) (by omega)
     clear hlq
     refine w_v (v := .agg #[.int .i64 (x19.st), .int .i64 (x19.rt)]) (x_loadRA (vs := plL x19) i (H17.exReads (k := 4) rfl hr (fun _ _ _ h => h)) (by omega) rfl rfl Tryz.underlying33 rfl sz33 (by rfl) (plE.flAt hx19)) ?_
     refine l_of (s_alloc H17 (wt0 rfl) rfl rfl rfl ze33 ?_)
     intro g20 wq21 H22
     refine w_a ?_
     refine l_of (w_st #[.int .i64 (x19.st), .int .i64 (x19.rt)] H22 0 ?_)
     intro wq23 H24
     refine w_e ?_
     refine g_seq ?_
     refine w_s ?_
     refine w_f 0 ?_
     refine w_1 H24 0 ?_
     refine w_b (v := .bool (!decide ((x19.st : Int) = 2))) (hb := b_neq) ?_
     refine w_e ?_
     by_cases hb25 : (x19.st : Int) = 2
     ·
      refine g_cond_f rfl (nf hb25) ?_
      refine g_skip ?_
      refine g_then ?_
      refine w_s ?_
      refine w_m ?_
      refine w_v (v := .int .i64 ((n : Int))) (x_lenl rfl rfl Tryz.underlying22) ?_
      refine w_m ?_
      refine w_e ?_
      refine g_block ?_
      refine g_loop (ι := Nat) (fun m => [(1, .slice p n c), (7, .pointer (some ⟨X.g, 0, none⟩)), (9, .int .i64 ((k : Int))), (10, .slice pz1 zz1.length cz1), (12, .int .i64 ((i : Int))), (32, .int .i64 (max rn 0)), (33, .int .i64 ((k : Int))), (50, .slice p n c), (51, .int .i64 ((n : Int))), (52, .int .i64 ((i : Int))), (60, .slice p n c), (61, .int .i64 ((n : Int))), (62, .int .i64 ((m : Int)))]) (fun m wx => (m ≤ n) ∧ S wx [Rw 34 1 pz1 zz1.length cz1 (fl rowL zz1), (Lst BwI zz1), (GM.I X1), (Pool (pl2 ++ [rd1])), Old w no]) (fun m => n - m) (0) ⟨rfl, rfl, rfl, rfl, rfl, rfl, rfl, rfl, rfl, rfl, rfl, rfl, rfl, trivial⟩ ⟨Nat.zero_le _, (H24.takes [1, 2, 3, 4, 5] (by decide))⟩ ?_
      rintro m wq26 ⟨hm, H27⟩
      refine g_weak [(1, .slice p n c), (7, .pointer (some ⟨X.g, 0, none⟩)), (9, .int .i64 ((k : Int))), (10, .slice pz1 zz1.length cz1), (12, .int .i64 ((i : Int))), (32, .int .i64 (max rn 0)), (33, .int .i64 ((k : Int))), (50, .slice p n c), (51, .int .i64 ((n : Int))), (52, .int .i64 ((i : Int))), (60, .slice p n c), (61, .int .i64 ((n : Int))), (62, .int .i64 ((m : Int)))] ⟨rfl, rfl, rfl, rfl, rfl, rfl, rfl, rfl, rfl, rfl, rfl, rfl, rfl, trivial⟩ ?_
      refine w_s ?_
      refine w_b ?_
      refine w_e ?_
      refine g_seq ?_
      by_cases hb28 : ((m : Int) : Int) < (n : Int)
      ·
       refine g_cond_t rfl (decide_eq_true hb28) ?_
       refine g_skip ?_
       refine g_then ?_
       refine g_seq ?_
       refine g_block ?_
       refine w_s ?_
       refine w_m ?_
       refine w_v (v := .pointer ((p).map fun q => q.add (m * 2))) (x_idxR m (H27.exReads (k := 4) rfl hr (fun _ _ _ h => h)) rfl rfl rfl Tryz.underlying22 sz33 (by omega)) ?_
       have hlq := (H27.exReads (k := 4) rfl hr (fun _ _ _ h => h)).lenL plE
       obtain ⟨x29, hx29⟩ := ex_at (l := l) (j := m) (by omega)
       clear hlq
       refine w_v (v := .agg #[.int .i64 (x29.st), .int .i64 (x29.rt)]) (x_loadRA (vs := plL x29) m (H27.exReads (k := 4) rfl hr (fun _ _ _ h => h)) (by omega) rfl rfl Tryz.underlying33 rfl sz33 (by rfl) (plE.flAt hx29)) ?_
       refine l_of (s_alloc H27 (wt0 rfl) rfl rfl rfl ze33 ?_)
       intro g30 wq31 H32
       refine w_a ?_
       refine l_of (w_st #[.int .i64 (x29.st), .int .i64 (x29.rt)] H32 0 ?_)
       intro wq33 H34
       refine w_e ?_
       refine w_s ?_
       refine w_r2 ?_
       refine w_v (v := .pointer ((pz1).map fun q => q.add (i * 1))) (x_idxR i (H34.rwReads (k := 1) rfl) rfl rfl rfl Tryz.underlying29 sz34 (by omega)) ?_
       have hlq := (H34.rwReads (k := 1) rfl).lenL rowE
       obtain ⟨x35, hx35⟩ := ex_at (l := zz1) (j := i) (by omega)
       clear hlq
       have hzx35 : x35.l = rowR Y.A i := zrow hzz1 hx35 (by rw [hYps]; omega)
       have hlx35 : x35.l.length = l.length := by rw [hzx35, rowR_len hYM.ok (by rw [hYps]; omega), hYps]
       refine w_v (v := .slice x35.p x35.l.length x35.c) (x_loadR1 i (H34.rwReads (k := 1) rfl) (by omega) rfl rfl Tryz.underlying34 rfl (rowE.flAt1 hx35 rfl)) ?_
       refine w_v (v := .int .i64 ((x35.l.length : Int))) (x_lenl rfl rfl Tryz.underlying34) ?_
       refine w_m ?_
       refine w_b ?_
       refine w_m ?_
       by_cases hb36 : ((x35.l.length : Int) : Int) ≤ (m : Int)
       ·
        refine w_n (decide_eq_true hb36) ?_
        refine w_n (decide_eq_true hb36) ?_
        refine w_n (decide_eq_true hb36) ?_
        refine w_n (decide_eq_true hb36) ?_
        refine w_n (decide_eq_true hb36) ?_
        refine w_n (decide_eq_true hb36) ?_
        refine w_n (decide_eq_true hb36) ?_
        refine w_v (v := .bool true) (x_pick_t rfl rfl (decide_eq_true hb36) rfl) ?_
        refine w_m ?_
        refine w_n rfl ?_
        refine w_n rfl ?_
        refine w_n rfl ?_
        refine w_n rfl ?_
        refine w_n rfl ?_
        refine w_n rfl ?_
        refine w_n rfl ?_
        refine w_n rfl ?_
        refine w_v (v := .bool true) (x_pick_t rfl rfl rfl rfl) ?_
        refine w_m ?_
        refine w_n rfl ?_
        refine w_n rfl ?_
        refine w_n rfl ?_
        refine l_of (s_not (wn2 rfl rfl rfl rfl) rfl rfl ?_)
        refine l_of (s_not (wn2 rfl rfl rfl rfl) rfl rfl ?_)
        refine l_of (s_not (wn2 rfl rfl rfl rfl) rfl rfl ?_)
        refine w_n rfl ?_
        refine w_n rfl ?_
        refine l_of (s_not (wn2 rfl rfl rfl rfl) rfl rfl ?_)
        refine l_of (s_not (wn2 rfl rfl rfl rfl) rfl rfl ?_)
        refine l_of (s_not (wn2 rfl rfl rfl rfl) rfl rfl ?_)
        refine l_of (s_not (wn2 rfl rfl rfl rfl) rfl rfl ?_)
        refine l_of (s_not (wn2 rfl rfl rfl rfl) rfl rfl ?_)
        refine l_of (s_not (wn2 rfl rfl rfl rfl) rfl rfl ?_)
        refine l_of (s_not (wn2 rfl rfl rfl rfl) rfl rfl ?_)
        refine l_of (s_not (wn2 rfl rfl rfl rfl) rfl rfl ?_)
        refine w_n rfl ?_
        refine w_v (v := .bool true) (x_pick_t rfl rfl rfl rfl) ?_
        refine w_e ?_
        refine g_weak [(1, .slice p n c), (7, .pointer (some ⟨X.g, 0, none⟩)), (9, .int .i64 ((k : Int))), (10, .slice pz1 zz1.length cz1), (12, .int .i64 ((i : Int))), (32, .int .i64 (max rn 0)), (33, .int .i64 ((k : Int))), (50, .slice p n c), (51, .int .i64 ((n : Int))), (52, .int .i64 ((i : Int))), (60, .slice p n c), (61, .int .i64 ((n : Int))), (62, .int .i64 ((m : Int))), (111, .bool true)] ⟨rfl, rfl, rfl, rfl, rfl, rfl, rfl, rfl, rfl, rfl, rfl, rfl, rfl, rfl, trivial⟩ ?_
        refine g_cond_t rfl rfl ?_
        refine w_s ?_
        refine w_a ?_
        refine w_e ?_
        refine g_weak [(6, .bool false)] ⟨rfl, trivial⟩ ?_
        refine g_ret ?_
        refine g_in_ret ?_
        refine g_then_ret ?_
        refine g_then_ret ?_
        refine g_in_ret ?_
        refine g_in_ret ?_
        refine g_then_ret ?_
        refine g_then_ret ?_
        refine g_in_ret ?_
        refine g_in_ret ?_
        refine g_then_ret ?_
        refine g_then_ret ?_
        refine g_in_ret ?_
        refine g_then_ret ?_
        refine fin_ret [.tmp 6] [.bool false] rfl ⟨rfl, trivial⟩ ?_
        exfalso
        omega
       ·
        refine w_g (decide_eq_false hb36) xm ?_
        refine w_g (decide_eq_false hb36) xm ?_
        refine w_g (v := .pointer ((pz1).map fun q => q.add (m * 1))) (decide_eq_false hb36) (x_idxR m (H34.rwReads (k := 1) rfl) rfl rfl rfl Tryz.underlying29 sz34 (by omega)) ?_
        have hlq := (H34.rwReads (k := 1) rfl).lenL rowE
        obtain ⟨x37, hx37⟩ := ex_at (l := zz1) (j := m) (by omega)
        clear hlq
        have hzx37 : x37.l = rowR Y.A m := zrow hzz1 hx37 (by rw [hYps]; omega)
        have hlx37 : x37.l.length = l.length := by rw [hzx37, rowR_len hYM.ok (by rw [hYps]; omega), hYps]
        refine w_g (v := .slice x37.p x37.l.length x37.c) (decide_eq_false hb36) (x_loadR1 m (H34.rwReads (k := 1) rfl) (by omega) rfl rfl Tryz.underlying34 rfl (rowE.flAt1 hx37 rfl)) ?_
        refine w_g (v := .int .i64 ((x37.l.length : Int))) (decide_eq_false hb36) (x_lenl rfl rfl Tryz.underlying34) ?_
        refine w_g (decide_eq_false hb36) xm ?_
        refine w_g (decide_eq_false hb36) (x_bin rfl rfl rfl b_leq) ?_
        refine w_v (v := .bool (decide (((x37.l.length : Int) : Int) ≤ (i : Int)))) (x_pick_f rfl rfl (decide_eq_false hb36) rfl) ?_
        refine w_m ?_
        by_cases hb38 : ((x37.l.length : Int) : Int) ≤ (i : Int)
        ·
         refine w_n (decide_eq_true hb38) ?_
         refine w_n (decide_eq_true hb38) ?_
         refine w_n (decide_eq_true hb38) ?_
         refine w_n (decide_eq_true hb38) ?_
         refine w_n (decide_eq_true hb38) ?_
         refine w_n (decide_eq_true hb38) ?_
         refine w_n (decide_eq_true hb38) ?_
         refine w_n (decide_eq_true hb38) ?_
         refine w_v (v := .bool true) (x_pick_t rfl rfl (decide_eq_true hb38) rfl) ?_
         refine w_m ?_
         refine w_n rfl ?_
         refine w_n rfl ?_
         refine w_n rfl ?_
         refine l_of (s_not (wn2 rfl rfl rfl rfl) rfl rfl ?_)
         refine l_of (s_not (wn2 rfl rfl rfl rfl) rfl rfl ?_)
         refine l_of (s_not (wn2 rfl rfl rfl rfl) rfl rfl ?_)
         refine w_n rfl ?_
         refine w_n rfl ?_
         refine l_of (s_not (wn2 rfl rfl rfl rfl) rfl rfl ?_)
         refine l_of (s_not (wn2 rfl rfl rfl rfl) rfl rfl ?_)
         refine l_of (s_not (wn2 rfl rfl rfl rfl) rfl rfl ?_)
         refine l_of (s_not (wn2 rfl rfl rfl rfl) rfl rfl ?_)
         refine l_of (s_not (wn2 rfl rfl rfl rfl) rfl rfl ?_)
         refine l_of (s_not (wn2 rfl rfl rfl rfl) rfl rfl ?_)
         refine l_of (s_not (wn2 rfl rfl rfl rfl) rfl rfl ?_)
         refine l_of (s_not (wn2 rfl rfl rfl rfl) rfl rfl ?_)
         refine w_n rfl ?_
         refine w_v (v := .bool true) (x_pick_t rfl rfl rfl rfl) ?_
         refine w_e ?_
         refine g_weak [(1, .slice p n c), (7, .pointer (some ⟨X.g, 0, none⟩)), (9, .int .i64 ((k : Int))), (10, .slice pz1 zz1.length cz1), (12, .int .i64 ((i : Int))), (32, .int .i64 (max rn 0)), (33, .int .i64 ((k : Int))), (50, .slice p n c), (51, .int .i64 ((n : Int))), (52, .int .i64 ((i : Int))), (60, .slice p n c), (61, .int .i64 ((n : Int))), (62, .int .i64 ((m : Int))), (111, .bool true)] ⟨rfl, rfl, rfl, rfl, rfl, rfl, rfl, rfl, rfl, rfl, rfl, rfl, rfl, rfl, trivial⟩ ?_
         refine g_cond_t rfl rfl ?_
         refine w_s ?_
         refine w_a ?_
         refine w_e ?_
         refine g_weak [(6, .bool false)] ⟨rfl, trivial⟩ ?_
         refine g_ret ?_
         refine g_in_ret ?_
         refine g_then_ret ?_
         refine g_then_ret ?_
         refine g_in_ret ?_
         refine g_in_ret ?_
         refine g_then_ret ?_
         refine g_then_ret ?_
         refine g_in_ret ?_
         refine g_in_ret ?_
         refine g_then_ret ?_
         refine g_then_ret ?_
         refine g_in_ret ?_
         refine g_then_ret ?_
         refine fin_ret [.tmp 6] [.bool false] rfl ⟨rfl, trivial⟩ ?_
         exfalso
         omega
        ·
         refine w_g (decide_eq_false hb38) xm ?_
         refine w_g (decide_eq_false hb38) xm ?_
         refine w_g (v := .pointer ((pz1).map fun q => q.add (i * 1))) (decide_eq_false hb38) (x_idxR i (H34.rwReads (k := 1) rfl) rfl rfl rfl Tryz.underlying29 sz34 (by omega)) ?_
         refine w_g (v := .slice x35.p x35.l.length x35.c) (decide_eq_false hb38) (x_loadR1 i (H34.rwReads (k := 1) rfl) (by omega) rfl rfl Tryz.underlying34 rfl (rowE.flAt1 hx35 rfl)) ?_
         refine w_g (decide_eq_false hb38) xm ?_
         refine w_g (v := .pointer ((x35.p).map fun q => q.add (m * 1))) (decide_eq_false hb38) (x_idxR m (H34.bwRd (k := 2) rfl hx35) rfl rfl rfl Tryz.underlying34 sz3 (by omega)) ?_
         have hlq := (H34.bwRd (k := 2) rfl hx35).lenL intE
         obtain ⟨x39, hx39⟩ := ex_at (l := x35.l) (j := m) (by omega)
         clear hlq
         have hvx39 : x39 = 0 := free_at hYM.ok (by rw [hYps]; exact hx19) (by assumption) (by rw [← hzx35]; exact hx39)
         refine w_g (v := .int .i64 x39) (decide_eq_false hb38) (x_loadR1 m (H34.bwRd (k := 2) rfl hx35) (by omega) rfl rfl Tryz.underlying3 rfl (intE.flAt1 hx39 rfl)) ?_
         refine w_g (v := .bool (!decide ((x39 : Int) = 0))) (decide_eq_false hb38) (x_bin rfl rfl rfl b_neq) ?_
         refine w_v (v := .bool (!decide ((x39 : Int) = 0))) (x_pick_f rfl rfl (decide_eq_false hb38) rfl) ?_
         refine w_m ?_
         by_cases hb40 : (x39 : Int) = 0
         ·
          refine w_g (nf hb40) xm ?_
          refine w_g (nf hb40) (x_bin rfl rfl rfl b_gtr) ?_
          refine w_g (nf hb40) xm ?_
          by_cases hb41 : (0 : Int) < (k : Int)
          ·
           refine w_g (decide_eq_true hb41) (xf 0) ?_
           refine w_g (decide_eq_true hb41) (xl H34 0) ?_
           refine w_g (decide_eq_true hb41) (x_bin rfl rfl rfl b_eql) ?_
           refine w_g (v := .bool (decide ((x29.st : Int) = 4))) (nf hb40) (x_pick_t rfl rfl (decide_eq_true hb41) rfl) ?_
           refine w_g (nf hb40) xm ?_
           by_cases hb42 : (x29.st : Int) = 4
           ·
            refine w_g (decide_eq_true hb42) xm ?_
            refine w_g (decide_eq_true hb42) xm ?_
            refine w_g (v := .pointer ((pz1).map fun q => q.add (m * 1))) (decide_eq_true hb42) (x_idxR m (H34.rwReads (k := 1) rfl) rfl rfl rfl Tryz.underlying29 sz34 (by omega)) ?_
            refine w_g (v := .slice x37.p x37.l.length x37.c) (decide_eq_true hb42) (x_loadR1 m (H34.rwReads (k := 1) rfl) (by omega) rfl rfl Tryz.underlying34 rfl (rowE.flAt1 hx37 rfl)) ?_
            refine w_g (decide_eq_true hb42) xm ?_
            refine w_g (v := .pointer ((x37.p).map fun q => q.add (i * 1))) (decide_eq_true hb42) (x_idxR i (H34.bwRd (k := 2) rfl hx37) rfl rfl rfl Tryz.underlying34 sz3 (by omega)) ?_
            have hlq := (H34.bwRd (k := 2) rfl hx37).lenL intE
            obtain ⟨x43, hx43⟩ := ex_at (l := x37.l) (j := i) (by omega)
            clear hlq
            have hvx43 : x43 = 0 := grim_at hYM.ok hYF (fun h9 => by have h8 := congrArg List.length h9; rw [hYM.gvl] at h8; have h7 : Y.gs.length = 0 := h8; omega) (by rw [hYps]; exact hx29) (by assumption) (by rw [hYps]; exact hx19) (by assumption) (by rw [← hzx37]; exact hx43)
            refine w_g (v := .int .i64 x43) (decide_eq_true hb42) (x_loadR1 i (H34.bwRd (k := 2) rfl hx37) (by omega) rfl rfl Tryz.underlying3 rfl (intE.flAt1 hx43 rfl)) ?_
            refine w_g (v := .bool (!decide ((x43 : Int) = 0))) (decide_eq_true hb42) (x_bin rfl rfl rfl b_neq) ?_
            refine w_g (v := .bool (!decide ((x43 : Int) = 0))) (nf hb40) (x_pick_t rfl rfl (decide_eq_true hb42) rfl) ?_
            refine w_v (v := .bool (!decide ((x43 : Int) = 0))) (x_pick_f rfl rfl (nf hb40) rfl) ?_
            refine w_e ?_
            refine g_weak [(1, .slice p n c), (7, .pointer (some ⟨X.g, 0, none⟩)), (9, .int .i64 ((k : Int))), (10, .slice pz1 zz1.length cz1), (12, .int .i64 ((i : Int))), (32, .int .i64 (max rn 0)), (33, .int .i64 ((k : Int))), (50, .slice p n c), (51, .int .i64 ((n : Int))), (52, .int .i64 ((i : Int))), (60, .slice p n c), (61, .int .i64 ((n : Int))), (62, .int .i64 ((m : Int))), (111, .bool (!decide ((x43 : Int) = 0)))] ⟨rfl, rfl, rfl, rfl, rfl, rfl, rfl, rfl, rfl, rfl, rfl, rfl, rfl, rfl, trivial⟩ ?_
            by_cases hb44 : (x43 : Int) = 0
            ·
             refine g_cond_f rfl (nf hb44) ?_
             refine g_skip ?_
             refine g_in ?_
             refine g_then ?_
             refine g_region ?_
             refine w_b (v := .int .i64 (((m + 1 : Nat) : Int))) (hb := (b_add (by rw [w64 (by omega)]; omega))) ?_
             refine w_m ?_
             refine w_e ?_
             refine g_round (i := (m)) ((m + 1)) ?_ ?_ ?_
             · exact ⟨rfl, rfl, rfl, rfl, rfl, rfl, rfl, rfl, rfl, rfl, rfl, rfl, rfl, trivial⟩
             · exact ⟨by omega, (H34.takes [1, 2, 3, 4, 5] (by decide))⟩
             · (try dsimp only); omega
            ·
             refine g_cond_t rfl (nt hb44) ?_
             refine w_s ?_
             refine w_a ?_
             refine w_e ?_
             refine g_weak [(6, .bool false)] ⟨rfl, trivial⟩ ?_
             refine g_ret ?_
             refine g_in_ret ?_
             refine g_then_ret ?_
             refine g_then_ret ?_
             refine g_in_ret ?_
             refine g_in_ret ?_
             refine g_then_ret ?_
             refine g_then_ret ?_
             refine g_in_ret ?_
             refine g_in_ret ?_
             refine g_then_ret ?_
             refine g_then_ret ?_
             refine g_in_ret ?_
             refine g_then_ret ?_
             refine fin_ret [.tmp 6] [.bool false] rfl ⟨rfl, trivial⟩ ?_
             exfalso
             omega
           ·
            refine w_n (decide_eq_false hb42) ?_
            refine w_n (decide_eq_false hb42) ?_
            refine w_n (decide_eq_false hb42) ?_
            refine w_n (decide_eq_false hb42) ?_
            refine w_n (decide_eq_false hb42) ?_
            refine w_n (decide_eq_false hb42) ?_
            refine w_n (decide_eq_false hb42) ?_
            refine w_n (decide_eq_false hb42) ?_
            refine w_g (v := .bool false) (nf hb40) (x_pick_f rfl rfl (decide_eq_false hb42) rfl) ?_
            refine w_v (v := .bool false) (x_pick_f rfl rfl (nf hb40) rfl) ?_
            refine w_e ?_
            refine g_weak [(1, .slice p n c), (7, .pointer (some ⟨X.g, 0, none⟩)), (9, .int .i64 ((k : Int))), (10, .slice pz1 zz1.length cz1), (12, .int .i64 ((i : Int))), (32, .int .i64 (max rn 0)), (33, .int .i64 ((k : Int))), (50, .slice p n c), (51, .int .i64 ((n : Int))), (52, .int .i64 ((i : Int))), (60, .slice p n c), (61, .int .i64 ((n : Int))), (62, .int .i64 ((m : Int))), (111, .bool false)] ⟨rfl, rfl, rfl, rfl, rfl, rfl, rfl, rfl, rfl, rfl, rfl, rfl, rfl, rfl, trivial⟩ ?_
            refine g_cond_f rfl rfl ?_
            refine g_skip ?_
            refine g_in ?_
            refine g_then ?_
            refine g_region ?_
            refine w_b (v := .int .i64 (((m + 1 : Nat) : Int))) (hb := (b_add (by rw [w64 (by omega)]; omega))) ?_
            refine w_m ?_
            refine w_e ?_
            refine g_round (i := (m)) ((m + 1)) ?_ ?_ ?_
            · exact ⟨rfl, rfl, rfl, rfl, rfl, rfl, rfl, rfl, rfl, rfl, rfl, rfl, rfl, trivial⟩
            · exact ⟨by omega, (H34.takes [1, 2, 3, 4, 5] (by decide))⟩
            · (try dsimp only); omega
          ·
           refine w_n (decide_eq_false hb41) ?_
           refine w_n (decide_eq_false hb41) ?_
           refine w_n (decide_eq_false hb41) ?_
           refine w_g (v := .bool false) (nf hb40) (x_pick_f rfl rfl (decide_eq_false hb41) rfl) ?_
           refine w_g (nf hb40) xm ?_
           refine w_n rfl ?_
           refine w_n rfl ?_
           refine w_n rfl ?_
           refine w_n rfl ?_
           refine w_n rfl ?_
           refine w_n rfl ?_
           refine w_n rfl ?_
           refine w_n rfl ?_
           refine w_g (v := .bool false) (nf hb40) (x_pick_f rfl rfl rfl rfl) ?_
           refine w_v (v := .bool false) (x_pick_f rfl rfl (nf hb40) rfl) ?_
           refine w_e ?_
           refine g_weak [(1, .slice p n c), (7, .pointer (some ⟨X.g, 0, none⟩)), (9, .int .i64 ((k : Int))), (10, .slice pz1 zz1.length cz1), (12, .int .i64 ((i : Int))), (32, .int .i64 (max rn 0)), (33, .int .i64 ((k : Int))), (50, .slice p n c), (51, .int .i64 ((n : Int))), (52, .int .i64 ((i : Int))), (60, .slice p n c), (61, .int .i64 ((n : Int))), (62, .int .i64 ((m : Int))), (111, .bool false)] ⟨rfl, rfl, rfl, rfl, rfl, rfl, rfl, rfl, rfl, rfl, rfl, rfl, rfl, rfl, trivial⟩ ?_
           refine g_cond_f rfl rfl ?_
           refine g_skip ?_
           refine g_in ?_
           refine g_then ?_
           refine g_region ?_
           refine w_b (v := .int .i64 (((m + 1 : Nat) : Int))) (hb := (b_add (by rw [w64 (by omega)]; omega))) ?_
           refine w_m ?_
           refine w_e ?_
           refine g_round (i := (m)) ((m + 1)) ?_ ?_ ?_
           · exact ⟨rfl, rfl, rfl, rfl, rfl, rfl, rfl, rfl, rfl, rfl, rfl, rfl, rfl, trivial⟩
           · exact ⟨by omega, (H34.takes [1, 2, 3, 4, 5] (by decide))⟩
           · (try dsimp only); omega
         ·
          refine w_n (nt hb40) ?_
          refine w_n (nt hb40) ?_
          refine w_n (nt hb40) ?_
          refine l_of (s_not (wn2 rfl rfl rfl rfl) rfl rfl ?_)
          refine l_of (s_not (wn2 rfl rfl rfl rfl) rfl rfl ?_)
          refine l_of (s_not (wn2 rfl rfl rfl rfl) rfl rfl ?_)
          refine w_n (nt hb40) ?_
          refine w_n (nt hb40) ?_
          refine l_of (s_not (wn2 rfl rfl rfl rfl) rfl rfl ?_)
          refine l_of (s_not (wn2 rfl rfl rfl rfl) rfl rfl ?_)
          refine l_of (s_not (wn2 rfl rfl rfl rfl) rfl rfl ?_)
          refine l_of (s_not (wn2 rfl rfl rfl rfl) rfl rfl ?_)
          refine l_of (s_not (wn2 rfl rfl rfl rfl) rfl rfl ?_)
          refine l_of (s_not (wn2 rfl rfl rfl rfl) rfl rfl ?_)
          refine l_of (s_not (wn2 rfl rfl rfl rfl) rfl rfl ?_)
          refine l_of (s_not (wn2 rfl rfl rfl rfl) rfl rfl ?_)
          refine w_n (nt hb40) ?_
          refine w_v (v := .bool true) (x_pick_t rfl rfl (nt hb40) rfl) ?_
          refine w_e ?_
          refine g_weak [(1, .slice p n c), (7, .pointer (some ⟨X.g, 0, none⟩)), (9, .int .i64 ((k : Int))), (10, .slice pz1 zz1.length cz1), (12, .int .i64 ((i : Int))), (32, .int .i64 (max rn 0)), (33, .int .i64 ((k : Int))), (50, .slice p n c), (51, .int .i64 ((n : Int))), (52, .int .i64 ((i : Int))), (60, .slice p n c), (61, .int .i64 ((n : Int))), (62, .int .i64 ((m : Int))), (111, .bool true)] ⟨rfl, rfl, rfl, rfl, rfl, rfl, rfl, rfl, rfl, rfl, rfl, rfl, rfl, rfl, trivial⟩ ?_
          refine g_cond_t rfl rfl ?_
          refine w_s ?_
          refine w_a ?_
          refine w_e ?_
          refine g_weak [(6, .bool false)] ⟨rfl, trivial⟩ ?_
          refine g_ret ?_
          refine g_in_ret ?_
          refine g_then_ret ?_
          refine g_then_ret ?_
          refine g_in_ret ?_
          refine g_in_ret ?_
          refine g_then_ret ?_
          refine g_then_ret ?_
          refine g_in_ret ?_
          refine g_in_ret ?_
          refine g_then_ret ?_
          refine g_then_ret ?_
          refine g_in_ret ?_
          refine g_then_ret ?_
          refine fin_ret [.tmp 6] [.bool false] rfl ⟨rfl, trivial⟩ ?_
          exfalso
          omega
      ·
       refine g_cond_f rfl (decide_eq_false hb28) ?_
       refine g_exit ?_
       refine g_then_exit ?_
       refine g_then_exit ?_
       refine g_in_hit ?_
       refine g_in ?_
       refine g_then ?_
       refine g_region ?_
       refine w_b (v := .int .i64 (((i + 1 : Nat) : Int))) (hb := (b_add (by rw [w64 (by omega)]; omega))) ?_
       refine w_m ?_
       refine w_e ?_
       refine g_round (i := (i)) ((i + 1)) ?_ ?_ ?_
       · exact ⟨rfl, rfl, rfl, rfl, rfl, rfl, rfl, rfl, rfl, trivial⟩
       · exact ⟨by omega, (H27.takes [0, 1, 2, 3, 4] (by decide))⟩
       · (try dsimp only); omega
     ·
      refine g_cond_t rfl (nt hb25) ?_
      refine g_exit ?_
      refine g_then_exit ?_
      refine g_in_hit ?_
      refine g_then ?_
      refine g_region ?_
      refine w_b (v := .int .i64 (((i + 1 : Nat) : Int))) (hb := (b_add (by rw [w64 (by omega)]; omega))) ?_
      refine w_m ?_
      refine w_e ?_
      refine g_round (i := (i)) ((i + 1)) ?_ ?_ ?_
      · exact ⟨rfl, rfl, rfl, rfl, rfl, rfl, rfl, rfl, rfl, trivial⟩
      · exact ⟨by omega, (H24.takes [1, 2, 3, 4, 5] (by decide))⟩
      · (try dsimp only); omega
    ·
     refine g_cond_f rfl (decide_eq_false hb18) ?_
     refine g_exit ?_
     refine g_then_exit ?_
     refine g_then_exit ?_
     refine g_in_hit ?_
     refine g_in ?_
     refine g_then ?_
     refine g_region ?_
     refine w_b (v := .int .i64 (((k + 1 : Nat) : Int))) (hb := (b_add (by rw [w64 (by omega)]; omega))) ?_
     refine w_m ?_
     refine w_e ?_
     refine g_round (i := (k, Y, pl2)) ((k + 1), X1, (pl2 ++ [rd1])) ?_ ?_ ?_
     · exact ⟨rfl, rfl, rfl, rfl, trivial⟩
     · exact ⟨(by omega), (by rw [hA1]; exact hYps), hg1, (by omega), hM1, (by rw [hA1]; exact FreeInv.step hYM.ok hYF), (H17.takes [2, 3, 4] (by decide))⟩
     · (try dsimp only); omega
   ·
    refine g_cond_f rfl (decide_eq_false hb13) ?_
    refine g_exit ?_
    refine g_then_exit ?_
    refine g_then_exit ?_
    refine g_in_hit ?_
    refine g_then ?_
    refine w_s ?_
    refine l_of (s_call0 H12 (wt0 rfl) (x_call' rfl rfl cl7) (awake_s _) rfl rfl ?_)
    intro wq45 H46
    refine w_a ?_
    refine w_e ?_
    refine g_ret ?_
    refine fin_ret [.tmp 6] [.bool true] rfl ⟨rfl, trivial⟩ ?_
    exact ⟨rfl, H46.mask [false, false, true]⟩
 ·
  refine g_cond_t rfl (nt hb3) ?_
  refine w_s ?_
  refine l_of (s_call0 H2 (wt0 rfl) (x_call' rfl rfl cl7) (awake_s _) rfl rfl ?_)
  intro wq47 H48
  refine w_a ?_
  refine w_e ?_
  refine g_ret ?_
  refine g_then_ret ?_
  refine fin_ret [.tmp 6] [.bool true] rfl ⟨rfl, trivial⟩ ?_
  exact ⟨rfl, H48.mask [true]⟩
end Go.Proofs.YtpbjekdjebjbkaaGreat
