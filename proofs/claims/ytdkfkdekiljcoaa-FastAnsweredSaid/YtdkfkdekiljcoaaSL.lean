import Derived.Test.YtdkfkdekiljcoaaSK
set_option linter.unusedSimpArgs false
set_option linter.unusedVariables false
namespace Go.Proofs.Ytdkfkdekiljcoaa
open Go.RowKit

theorem cl22 : callable Try.prog 22 = true := by kernel_rfl
theorem cl25 : callable Try.prog 25 = true := by kernel_rfl
theorem fo54_4 : foO Try.prog 54 4 = some 4 := by kernel_rfl
theorem fo54_5 : foO Try.prog 54 5 = some 5 := by kernel_rfl
def openB (a : Wy) (i : Int) : Bool := !a.ck || inB a.al i
set_option maxRecDepth 20000 in
set_option maxHeartbeats 4000000 in
theorem open_o (sg : Nat) (c : Co) (o : Bool) (A B : Ad) (a b : Wy) (i : Int) (hal : a.al.length ≤ 1099511627776) (w : World) (HS : S w [sgI sg c o A B a b, alI A a, waI A a, goI A a, alI B b, waI B b, goI B b]) : Calls Try.prog 24 #[.pointer (some ⟨sg, offO o, none⟩), .int .i64 i] w fun e w' => e = .returned (.bool (openB a i)) ∧ S w' ([sgI sg c o A B a b, alI A a, waI A a, goI A a, alI B b, waI B b, goI B b] ++ [olS w sg c o A B a b]) := by
 have H0 := HS.beginI
 refine enter 18 Try.func24 rfl rfl rfl ?_
 refine g_weak [(0, .pointer (some ⟨sg, offO o, none⟩)), (1, .int .i64 i)] ⟨rfl, rfl, trivial⟩ ?_
 refine w_s ?_
 refine w_a ?_
 refine w_e ?_
 refine w_s ?_
 refine w_r2 ?_
 refine w_f (offO o + 1) ?_
 refine w_v (x_load1 H0 0 rfl rfl Try.underlying4 rfl rfl (sgC_o rfl rfl rfl)) ?_
 refine w_v (v := .bool (!(a.ck))) (x_not (b := a.ck) rfl rfl) ?_
 refine w_m ?_
 rcases Bool.eq_false_or_eq_true (a.ck) with hb1 | hb1
 ·
  refine w_g (neg_of hb1) xm ?_
  refine w_g (neg_of hb1) xn ?_
  refine w_g (neg_of hb1) (xf (offO o + 4)) ?_
  refine w_g (neg_of hb1) (x_load1 H0 0 rfl rfl Try.underlying45 rfl rfl (sgC_o rfl rfl rfl)) ?_
  refine w_g (neg_of hb1) xm ?_
  refine l_of (s_call0 H0 (wt1 rfl rfl rfl rfl (neg_of hb1)) (x_call' rfl rfl cl37) (contains_i a.al A.pa A.ca i (by omega) _ (H0.rwReads (k := 1) rfl)) rfl rfl ?_)
  intro wq2 H3
  refine w_v (v := .bool ((inB a.al i))) (x_pick_f rfl rfl (neg_of hb1) rfl) ?_
  refine w_a ?_
  refine w_e ?_
  refine g_weak [(4, .bool ((inB a.al i)))] ⟨rfl, trivial⟩ ?_
  refine g_ret ?_
  refine fin_ret [.tmp 4] [.bool ((inB a.al i))] rfl ⟨rfl, trivial⟩ ?_
  exact ⟨by unfold openB; simp [hb1]; rfl, H3.takes [0, 1, 2, 3, 4, 5, 6, 7] (by decide)⟩
 ·
  refine w_n (neg_of hb1) ?_
  refine w_n (neg_of hb1) ?_
  refine w_n (neg_of hb1) ?_
  refine w_n (neg_of hb1) ?_
  refine w_n (neg_of hb1) ?_
  refine w_n (neg_of hb1) ?_
  refine w_v (v := .bool true) (x_pick_t rfl rfl (neg_of hb1) rfl) ?_
  refine w_a ?_
  refine w_e ?_
  refine g_weak [(4, .bool true)] ⟨rfl, trivial⟩ ?_
  refine g_ret ?_
  refine fin_ret [.tmp 4] [.bool true] rfl ⟨rfl, trivial⟩ ?_
  exact ⟨by unfold openB; simp [hb1]; rfl, H0.takes [0, 1, 2, 3, 4, 5, 6, 7] (by decide)⟩
set_option maxRecDepth 20000 in
set_option maxHeartbeats 4000000 in
theorem waiting_o (sg : Nat) (c : Co) (o : Bool) (A B : Ad) (a b : Wy) (hal : a.wa.length ≤ 1099511627776) (w : World) (HS : S w [sgI sg c o A B a b, alI A a, waI A a, goI A a, alI B b, waI B b, goI B b]) : Calls Try.prog 9 #[.pointer (some ⟨sg, 0, none⟩), .bool o] w fun e w' => ∃ p' c', e = .returned (.slice p' a.wa.length c') ∧ S w' ([Rw 49 3 p' a.wa.length c' (chV a.wa), sgI sg c o A B a b, alI A a, waI A a, goI A a, alI B b, waI B b, goI B b] ++ [olS w sg c o A B a b]) := by
 have H0 := HS.beginI
 refine enter 16 Try.func9 rfl rfl rfl ?_
 refine g_weak [(0, .pointer (some ⟨sg, 0, none⟩)), (1, .bool o)] ⟨rfl, rfl, trivial⟩ ?_
 refine w_s ?_
 refine w_a ?_
 refine w_e ?_
 refine g_seq ?_
 refine w_s ?_
 refine w_m ?_
 refine w_b (v := .bool false) (hb := (b_eqN (r := false) Try.underlying27 rfl)) ?_
 refine w_e ?_
 refine g_cond_f rfl rfl ?_
 refine g_skip ?_
 refine g_then ?_
 refine g_seq ?_
 refine g_any [] (fun wx => S wx [sgI sg c o A B a b]) [] (by kernel_rfl) H0 (fun wq1 H2 => ?_)
 have cm4 := H2.mask [true, false, false, false, false, false, false, false]
 refine w_t 0 rfl cm4 (fun _ _ => xm) ?_
 refine w_t 1 rfl cm4 (fun _ _ => xm) ?_
 refine w_t 3 rfl cm4 (fun _ _ => xn) ?_
 refine w_t 4 rfl cm4 (fun _ _ => xf 5) ?_
 refine a_one (i := 2) (by kernel_rfl) rfl ?_
 refine s_call0 H2 (wt0 rfl) (x_call' rfl rfl cl23) (way_o o _) rfl rfl ?_
 intro wq3 H4
 have cm5 := H4.mask [true, false, false, false, false, false, false, false]
 refine a_k cm5 ?_
 refine w_t (v := .pointer (some ⟨sg, offO o, none⟩)) 5 rfl cm5 (fun _ _ => x_indexAddrA (wN o) rfl rfl rfl Try.underlying55 sz54 ⟨rfl, wN_lt _⟩ (off' := offO o) (way_offO o)) ?_
 refine w_t 6 rfl cm5 (fun _ _ => xf (offO o + 5)) ?_
 refine w_t 7 rfl cm5 (fun _ H => x_load1 H 0 rfl rfl Try.underlying37 rfl rfl (sgC_o rfl rfl rfl)) ?_
 refine a_one (i := 8) (by kernel_rfl) rfl ?_
 refine s_call (wt0 rfl) (x_call' rfl rfl cl22) (clone_c a.wa A.pw A.cw (by omega) _ (H4.rwReads (k := 2) rfl)) ?_
 rintro _ wq7 ⟨p5, c6, rfl, H8⟩
 replace H8 : S wq7 [Rw 49 3 p5 a.wa.length c6 (chV a.wa), sgI sg c o A B a b, alI A a, waI A a, goI A a, alI B b, waI B b, goI B b, olS w sg c o A B a b] := H4.absorb (new := [Rw 49 3 p5 a.wa.length c6 (chV a.wa)]) H8
 refine b_ret rfl rfl ?_
 have cm6 := H8.mask [false, true, false, false, false, false, false, false, false]
 refine a_k cm6 ?_
 refine w_t 9 rfl cm6 (fun _ _ => xa) ?_
 refine a_done (by kernel_rfl) ?_
 refine g_then ?_
 refine g_weak [(4, .slice p5 a.wa.length c6)] ⟨rfl, trivial⟩ ?_
 refine g_ret ?_
 refine fin_ret [.tmp 4] [.slice p5 a.wa.length c6] rfl ⟨rfl, trivial⟩ ?_
 exact ⟨_, _, rfl, H8.takes [0, 1, 2, 3, 4, 5, 6, 7, 8] (by decide)⟩
end Go.Proofs.Ytdkfkdekiljcoaa
