import Derived.Test.YtdkfkdekiljcoaaRC
set_option linter.unusedSimpArgs false
set_option linter.unusedVariables false
namespace Go.Proofs.Ytdkfkdekiljcoaa
open Go.RowKit

theorem cl20 : callable Try.prog 20 = true := by kernel_rfl
theorem cl21 : callable Try.prog 21 = true := by kernel_rfl
theorem cl29 : callable Try.prog 29 = true := by kernel_rfl
theorem valid_pS (m : M) (w : World) : Calls Try.prog 28 #[.agg m.cells] w fun e w' => e = .returned (.bool (validP m)) ∧ S w' [Old w no] := (valid_p m w).mono fun e w' h => ⟨h.1, S.of_below h.2⟩
def mayE (c : Co) (a b : Wy) (m : M) : Int := if validP m = true then stepE c a b m else 1
def mayO (c : Co) (a b : Wy) (m : M) : Wy := if validP m = true then stepO c a b m else a
def mayQ (c : Co) (a b : Wy) (m : M) : Wy := if validP m = true then stepP c a b m else b
theorem step_refused {c : Co} {a b : Wy} {m : M} (h : ¬ stepE c a b m = 0) : stepO c a b m = a ∧ stepP c a b m = b := ⟨if_neg h, if_neg h⟩
theorem may_refused {c : Co} {a b : Wy} {m : M} (h : ¬ mayE c a b m = 0) : mayO c a b m = a ∧ mayQ c a b m = b := by
  unfold mayE at h; unfold mayO mayQ
  by_cases hv : validP m = true
  · rw [if_pos hv] at h ⊢; rw [if_pos hv]; exact step_refused h
  · rw [if_neg hv, if_neg hv]; exact ⟨rfl, rfl⟩
/-- What holds of a way. -/
structure Wok (c : Co) (a : Wy) : Prop where
  V : Vf c.n.toNat a.fd
  al : a.al.length ≤ 1099511627776
  wa : a.wa.length ≤ 1099511627776
  g : Gok a
def goodU (n p l q : Int) : Prop := 1 ≤ n ∧ n ≤ 4096 ∧ 1 ≤ p ∧ p ≤ 1024 ∧ 1 ≤ l ∧ l ≤ p ∧ 1 ≤ q ∧ q ≤ 1000
def Wy.new (n : Int) : Wy := ⟨false, true, false, (newS n).1, [], [], fun _ => none⟩
set_option maxRecDepth 20000 in
set_option maxHeartbeats 4000000 in
theorem may_o (sg : Nat) (c : Co) (o : Bool) (A B : Ad) (a b : Wy) (m : M) (hn : 1 ≤ c.n ∧ c.n ≤ 4096) (ha : Wok c a) (hb : Wok c b) (w : World) (HS : S w [sgI sg c o A B a b, alI A a, waI A a, goI A a, alI B b, waI B b, goI B b]) : Calls Try.prog 20 #[.pointer (some ⟨sg, 0, none⟩), .bool o, .agg m.cells] w fun e w' => e = .returned (.int .i64 (mayE c a b m)) ∧ S w' ([sgI sg c o A B a b, alI A a, waI A a, goI A a, alI B b, waI B b, goI B b] ++ [olS w sg c o A B a b]) := by
 have H0 := HS.beginI
 refine enter 19 Try.func20 rfl rfl rfl ?_
 refine g_weak [(0, .pointer (some ⟨sg, 0, none⟩)), (1, .bool o), (2, .agg m.cells)] ⟨rfl, rfl, rfl, trivial⟩ ?_
 refine w_s ?_
 refine l_of (s_box H0 (wt0 rfl) rfl rfl rfl rfl ?_)
 intro g1 wq2 H3
 refine w_a ?_
 refine w_e ?_
 refine g_seq ?_
 refine w_s ?_
 refine w_m ?_
 refine w_b (v := .bool false) (hb := (b_eqN (r := false) Try.underlying27 rfl)) ?_
 refine w_m ?_
 refine w_g (v := .agg m.cells) rfl (x_loadA H3 0 rfl rfl Try.underlying33 rfl sz33 rfl rfl rfl) ?_
 refine l_of (s_call0 H3 (wt1 rfl rfl rfl rfl rfl) (x_call' rfl rfl cl28) (valid_pS m _) rfl rfl ?_)
 intro wq4 H5
 refine w_g (v := .bool (!((validP m)))) rfl (x_not (b := (validP m)) rfl rfl) ?_
 refine w_v (v := .bool (!((validP m)))) (x_pick_f rfl rfl rfl rfl) ?_
 refine w_e ?_
 rcases Bool.eq_false_or_eq_true ((validP m)) with hb6 | hb6
 ·
  refine g_cond_f rfl (neg_of hb6) ?_
  refine g_skip ?_
  refine g_then ?_
  refine g_seq ?_
  refine g_any [(0, .pointer (some ⟨sg, 0, none⟩)), (1, .bool o), (2, .agg m.cells), (5, .pointer (some ⟨g1, 0, none⟩)), (7, .pointer (some ⟨sg, 0, none⟩)), (8, .bool false), (9, .bool false), (10, .agg m.cells), (11, .bool ((validP m))), (12, .bool (!((validP m)))), (13, .bool (!((validP m))))] (fun wx => S wx [mgI g1 m]) [] (by kernel_rfl) H5 (fun wq7 H8 => ?_)
  have cm1 := H8.mask [true, false, false, false, false, false, false, false, false]
  refine w_t 0 rfl cm1 (fun _ _ => xm) ?_
  refine w_t 2 rfl cm1 (fun _ _ => xm) ?_
  refine w_t (v := .agg m.cells) 3 rfl cm1 (fun _ H => x_loadA H 0 rfl rfl Try.underlying33 rfl sz33 rfl rfl rfl) ?_
  refine a_one (i := 1) (by kernel_rfl) rfl ?_
  refine s_call (wt0 rfl) (x_call' rfl rfl cl29) (copy_o sg c o A B a b ha.g hb.g ha.al ha.wa hb.al hb.wa _ (H8.takes [1, 2, 3, 4, 5, 6, 7] (by decide))) ?_
  rintro _ wq12 ⟨gq9, B10, B11, rfl, H13⟩
  replace H13 : S wq12 [sgI gq9 c o B10 B11 a b, alI B10 a, waI B10 a, goI B10 a, alI B11 b, waI B11 b, goI B11 b, sgI sg c o A B a b, alI A a, waI A a, goI A a, alI B b, waI B b, goI B b, mgI g1 m, olS w sg c o A B a b] := by have h := H8.absorbI [1, 2, 3, 4, 5, 6, 7] H13; exact h
  refine b_ret rfl rfl ?_
  refine a_k (H13.mask [false, false, false, false, false, false, false, false, false, false, false, false, false, false, true, false]) ?_
  refine a_one (i := 4) (by kernel_rfl) rfl ?_
  refine s_call (wt0 rfl) (x_call' rfl rfl cl21) (step_o gq9 c o B10 B11 a b m hn ha.V hb.V ha.al ha.wa hb.wa _ (H13.takes [0, 1, 2, 3, 4, 5, 6] (by decide))) ?_
  rintro _ wq16 ⟨P14, P15, rfl, H17⟩
  replace H17 : S wq16 [sgI gq9 c o P14 P15 (stepO c a b m) (stepP c a b m), alI P14 (stepO c a b m), waI P14 (stepO c a b m), goI P14 (stepO c a b m), alI P15 (stepP c a b m), waI P15 (stepP c a b m), goI P15 (stepP c a b m), sgI sg c o A B a b, alI A a, waI A a, goI A a, alI B b, waI B b, goI B b, mgI g1 m, olS w sg c o A B a b] := by have h := H13.absorbI [0, 1, 2, 3, 4, 5, 6] H17; exact h
  refine b_ret rfl rfl ?_
  have cm2 := H17.mask [false, false, false, false, false, false, false, false, false, false, false, false, false, false, true, false]
  refine a_k cm2 ?_
  refine w_t 5 rfl cm2 (fun _ _ => xa) ?_
  refine a_done (by kernel_rfl) ?_
  refine g_then ?_
  refine g_weak [(6, .int .i64 ((stepE c a b m)))] ⟨rfl, trivial⟩ ?_
  refine g_ret ?_
  refine fin_ret [.tmp 6] [.int .i64 ((stepE c a b m))] rfl ⟨rfl, trivial⟩ ?_
  have hE : mayE c a b m = (stepE c a b m) := by unfold mayE; rw [if_pos hb6]
  exact ⟨by rw [hE]; rfl, (H17.takes [7, 8, 9, 10, 11, 12, 13, 15] (by decide))⟩
 ·
  refine g_cond_t rfl (neg_of hb6) ?_
  refine w_s ?_
  refine w_a ?_
  refine w_e ?_
  refine g_ret ?_
  refine g_then_ret ?_
  refine fin_ret [.tmp 6] [.int .i64 1] rfl ⟨rfl, trivial⟩ ?_
  have hE : mayE c a b m = 1 := by unfold mayE; rw [if_neg (by rw [hb6]; exact Bool.false_ne_true)]
  exact ⟨by rw [hE]; rfl, (H5.takes [1, 2, 3, 4, 5, 6, 7, 8] (by decide))⟩
set_option maxRecDepth 20000 in
set_option maxHeartbeats 4000000 in
theorem stepF_o (sg : Nat) (c : Co) (o : Bool) (A B : Ad) (a b : Wy) (m : M) (hn : 1 ≤ c.n ∧ c.n ≤ 4096) (ha : Wok c a) (hb : Wok c b) (w : World) (HS : S w [sgI sg c o A B a b, alI A a, waI A a, goI A a, alI B b, waI B b, goI B b]) : Calls Try.prog 8 #[.pointer (some ⟨sg, 0, none⟩), .bool o, .agg m.cells] w fun e w' => ∃ Aq Bq : Ad, e = .returned (.int .i64 (mayE c a b m)) ∧ S w' ([sgI sg c o Aq Bq (mayO c a b m) (mayQ c a b m), alI Aq (mayO c a b m), waI Aq (mayO c a b m), goI Aq (mayO c a b m), alI Bq (mayQ c a b m), waI Bq (mayQ c a b m), goI Bq (mayQ c a b m)] ++ [olS w sg c o A B a b]) := by
 have H0 := HS.beginI
 refine enter 19 Try.func8 rfl rfl rfl ?_
 refine g_weak [(0, .pointer (some ⟨sg, 0, none⟩)), (1, .bool o), (2, .agg m.cells)] ⟨rfl, rfl, rfl, trivial⟩ ?_
 refine w_s ?_
 refine l_of (s_box H0 (wt0 rfl) rfl rfl rfl rfl ?_)
 intro g1 wq2 H3
 refine w_a ?_
 refine w_e ?_
 refine g_seq ?_
 refine w_s ?_
 refine w_r2 ?_
 refine w_v (v := .agg m.cells) (x_loadA H3 0 rfl rfl Try.underlying33 rfl sz33 rfl rfl rfl) ?_
 refine l_of (s_call (wt0 rfl) (x_call' rfl rfl cl20) (may_o sg c o A B a b m hn ha hb _ (H3.takes [1, 2, 3, 4, 5, 6, 7] (by decide))) ?_)
 rintro _ wq4 ⟨rfl, H5⟩
 replace H5 : S wq4 [sgI sg c o A B a b, alI A a, waI A a, goI A a, alI B b, waI B b, goI B b, mgI g1 m, olS w sg c o A B a b] := by have h := H3.absorbI [1, 2, 3, 4, 5, 6, 7] H5; exact h
 refine b_ret rfl rfl ?_
 refine w_a ?_
 refine w_e ?_
 refine w_s ?_
 refine w_m ?_
 refine w_b (v := .bool (!decide (((mayE c a b m) : Int) = 0))) (hb := b_neq) ?_
 refine w_e ?_
 by_cases hb6 : ((mayE c a b m) : Int) = 0
 ·
  refine g_cond_f rfl (nf hb6) ?_
  refine g_skip ?_
  refine g_then ?_
  refine w_s ?_
  refine w_r2 ?_
  refine w_v (v := .agg m.cells) (x_loadA H5 7 rfl rfl Try.underlying33 rfl sz33 rfl rfl rfl) ?_
  refine l_of (s_call (wt0 rfl) (x_call' rfl rfl cl21) (step_o sg c o A B a b m hn ha.V hb.V ha.al ha.wa hb.wa _ (H5.takes [0, 1, 2, 3, 4, 5, 6] (by decide))) ?_)
  rintro _ wq9 ⟨P7, P8, rfl, H10⟩
  replace H10 : S wq9 [sgI sg c o P7 P8 (stepO c a b m) (stepP c a b m), alI P7 (stepO c a b m), waI P7 (stepO c a b m), goI P7 (stepO c a b m), alI P8 (stepP c a b m), waI P8 (stepP c a b m), goI P8 (stepP c a b m), mgI g1 m, olS w sg c o A B a b] := by have h := H5.absorbI [0, 1, 2, 3, 4, 5, 6] H10; exact h
  refine b_ret rfl rfl ?_
  refine w_a ?_
  refine w_e ?_
  refine g_weak [(6, .int .i64 ((stepE c a b m)))] ⟨rfl, trivial⟩ ?_
  refine g_ret ?_
  refine fin_ret [.tmp 6] [.int .i64 ((stepE c a b m))] rfl ⟨rfl, trivial⟩ ?_
  have hv : validP m = true := by
   rcases Bool.eq_false_or_eq_true (validP m) with hv | hv
   · exact hv
   ·
    have hz : mayE c a b m = 0 := hb6
    unfold mayE at hz; rw [if_neg (by rw [hv]; exact Bool.false_ne_true)] at hz; cases hz
  have q0 : mayE c a b m = stepE c a b m := if_pos hv
  have q1 : mayO c a b m = stepO c a b m := if_pos hv
  have q2 : mayQ c a b m = stepP c a b m := if_pos hv
  exact ⟨P7, P8, by rw [q0]; rfl, by rw [q1, q2]; exact (H10.takes [0, 1, 2, 3, 4, 5, 6, 8] (by decide))⟩
 ·
  refine g_cond_t rfl (nt hb6) ?_
  refine w_s ?_
  refine w_r2 ?_
  refine w_e ?_
  refine g_weak [(6, .int .i64 ((mayE c a b m)))] ⟨rfl, trivial⟩ ?_
  refine g_ret ?_
  refine g_then_ret ?_
  refine fin_ret [.tmp 6] [.int .i64 ((mayE c a b m))] rfl ⟨rfl, trivial⟩ ?_
  obtain ⟨q1, q2⟩ := may_refused (hb6 : ¬ mayE c a b m = 0)
  exact ⟨A, B, rfl, by rw [q1, q2]; exact (H5.takes [0, 1, 2, 3, 4, 5, 6, 8] (by decide))⟩
set_option maxRecDepth 20000 in
set_option maxHeartbeats 4000000 in
theorem newF_s (n p l q : Int) (ft : Bool) (w : World) : Calls Try.prog 7 #[.int .i64 n, .int .i64 p, .int .i64 l, .int .i64 q, .bool ft] w fun e w' => (goodU n p l q ∧ ∃ (gq : Nat) (B0 B1 : Ad), e = .returned (.tuple #[.pointer (some ⟨gq, 0, none⟩), .int .i64 0]) ∧ S w' ([sgI gq (Co.mk n p l q ft) true B1 B0 (Wy.new n) (Wy.new n), alI B1 (Wy.new n), waI B1 (Wy.new n), goI B1 (Wy.new n), alI B0 (Wy.new n), waI B0 (Wy.new n), goI B0 (Wy.new n)] ++ [Old w no])) ∨ (¬ goodU n p l q ∧ e = .returned (.tuple #[.pointer none, .int .i64 7]) ∧ S w' [Old w no]) := by
 have H0 := S.old w
 refine enter 73 Try.func7 rfl rfl rfl ?_
 refine g_weak [(0, .int .i64 n), (1, .int .i64 p), (2, .int .i64 l), (3, .int .i64 q), (4, .bool ft)] ⟨rfl, rfl, rfl, rfl, rfl, trivial⟩ ?_
 refine w_s ?_
 refine w_r2 ?_
 refine w_e ?_
 refine g_seq ?_
 refine w_s ?_
 refine w_m ?_
 refine w_b ?_
 refine w_m ?_
 by_cases hb1 : (n : Int) < 1
 ·
  refine w_n (decide_eq_true hb1) ?_
  refine w_n (decide_eq_true hb1) ?_
  refine w_v (v := .bool true) (x_pick_t rfl rfl (decide_eq_true hb1) rfl) ?_
  refine w_m ?_
  refine w_n rfl ?_
  refine w_n rfl ?_
  refine w_v (v := .bool true) (x_pick_t rfl rfl rfl rfl) ?_
  refine w_m ?_
  refine w_n rfl ?_
  refine w_n rfl ?_
  refine w_v (v := .bool true) (x_pick_t rfl rfl rfl rfl) ?_
  refine w_m ?_
  refine w_n rfl ?_
  refine w_n rfl ?_
  refine w_v (v := .bool true) (x_pick_t rfl rfl rfl rfl) ?_
  refine w_m ?_
  refine w_n rfl ?_
  refine w_n rfl ?_
  refine w_n rfl ?_
  refine w_v (v := .bool true) (x_pick_t rfl rfl rfl rfl) ?_
  refine w_m ?_
  refine w_n rfl ?_
  refine w_n rfl ?_
  refine w_v (v := .bool true) (x_pick_t rfl rfl rfl rfl) ?_
  refine w_m ?_
  refine w_n rfl ?_
  refine w_n rfl ?_
  refine w_v (v := .bool true) (x_pick_t rfl rfl rfl rfl) ?_
  refine w_e ?_
  refine g_weak [(0, .int .i64 n), (1, .int .i64 p), (2, .int .i64 l), (3, .int .i64 q), (4, .bool ft), (46, .bool true)] ⟨rfl, rfl, rfl, rfl, rfl, rfl, trivial⟩ ?_
  refine g_cond_t rfl rfl ?_
  refine w_s ?_
  refine w_r2 ?_
  refine w_e ?_
  refine g_ret ?_
  refine g_then_ret ?_
  refine fin_ret [.tmp 10, .tmp 11] [.pointer none, .int .i64 7] rfl ⟨rfl, rfl, trivial⟩ ?_
  exact .inr ⟨by unfold goodU; omega, rfl, H0.mask [true]⟩
 ·
  refine w_g (decide_eq_false hb1) xm ?_
  refine w_g (decide_eq_false hb1) (x_bin rfl rfl rfl b_gtr) ?_
  refine w_v (v := .bool (decide ((4096 : Int) < n))) (x_pick_f rfl rfl (decide_eq_false hb1) rfl) ?_
  refine w_m ?_
  by_cases hb2 : (4096 : Int) < n
  ·
   refine w_n (decide_eq_true hb2) ?_
   refine w_n (decide_eq_true hb2) ?_
   refine w_v (v := .bool true) (x_pick_t rfl rfl (decide_eq_true hb2) rfl) ?_
   refine w_m ?_
   refine w_n rfl ?_
   refine w_n rfl ?_
   refine w_v (v := .bool true) (x_pick_t rfl rfl rfl rfl) ?_
   refine w_m ?_
   refine w_n rfl ?_
   refine w_n rfl ?_
   refine w_v (v := .bool true) (x_pick_t rfl rfl rfl rfl) ?_
   refine w_m ?_
   refine w_n rfl ?_
   refine w_n rfl ?_
   refine w_n rfl ?_
   refine w_v (v := .bool true) (x_pick_t rfl rfl rfl rfl) ?_
   refine w_m ?_
   refine w_n rfl ?_
   refine w_n rfl ?_
   refine w_v (v := .bool true) (x_pick_t rfl rfl rfl rfl) ?_
   refine w_m ?_
   refine w_n rfl ?_
   refine w_n rfl ?_
   refine w_v (v := .bool true) (x_pick_t rfl rfl rfl rfl) ?_
   refine w_e ?_
   refine g_weak [(0, .int .i64 n), (1, .int .i64 p), (2, .int .i64 l), (3, .int .i64 q), (4, .bool ft), (46, .bool true)] ⟨rfl, rfl, rfl, rfl, rfl, rfl, trivial⟩ ?_
   refine g_cond_t rfl rfl ?_
   refine w_s ?_
   refine w_r2 ?_
   refine w_e ?_
   refine g_ret ?_
   refine g_then_ret ?_
   refine fin_ret [.tmp 10, .tmp 11] [.pointer none, .int .i64 7] rfl ⟨rfl, rfl, trivial⟩ ?_
   exact .inr ⟨by unfold goodU; omega, rfl, H0.mask [true]⟩
  ·
   refine w_g (decide_eq_false hb2) xm ?_
   refine w_g (decide_eq_false hb2) (x_bin rfl rfl rfl b_lss) ?_
   refine w_v (v := .bool (decide ((p : Int) < 1))) (x_pick_f rfl rfl (decide_eq_false hb2) rfl) ?_
   refine w_m ?_
   by_cases hb3 : (p : Int) < 1
   ·
    refine w_n (decide_eq_true hb3) ?_
    refine w_n (decide_eq_true hb3) ?_
    refine w_v (v := .bool true) (x_pick_t rfl rfl (decide_eq_true hb3) rfl) ?_
    refine w_m ?_
    refine w_n rfl ?_
    refine w_n rfl ?_
    refine w_v (v := .bool true) (x_pick_t rfl rfl rfl rfl) ?_
    refine w_m ?_
    refine w_n rfl ?_
    refine w_n rfl ?_
    refine w_n rfl ?_
    refine w_v (v := .bool true) (x_pick_t rfl rfl rfl rfl) ?_
    refine w_m ?_
    refine w_n rfl ?_
    refine w_n rfl ?_
    refine w_v (v := .bool true) (x_pick_t rfl rfl rfl rfl) ?_
    refine w_m ?_
    refine w_n rfl ?_
    refine w_n rfl ?_
    refine w_v (v := .bool true) (x_pick_t rfl rfl rfl rfl) ?_
    refine w_e ?_
    refine g_weak [(0, .int .i64 n), (1, .int .i64 p), (2, .int .i64 l), (3, .int .i64 q), (4, .bool ft), (46, .bool true)] ⟨rfl, rfl, rfl, rfl, rfl, rfl, trivial⟩ ?_
    refine g_cond_t rfl rfl ?_
    refine w_s ?_
    refine w_r2 ?_
    refine w_e ?_
    refine g_ret ?_
    refine g_then_ret ?_
    refine fin_ret [.tmp 10, .tmp 11] [.pointer none, .int .i64 7] rfl ⟨rfl, rfl, trivial⟩ ?_
    exact .inr ⟨by unfold goodU; omega, rfl, H0.mask [true]⟩
   ·
    refine w_g (decide_eq_false hb3) xm ?_
    refine w_g (decide_eq_false hb3) (x_bin rfl rfl rfl b_gtr) ?_
    refine w_v (v := .bool (decide ((1024 : Int) < p))) (x_pick_f rfl rfl (decide_eq_false hb3) rfl) ?_
    refine w_m ?_
    by_cases hb4 : (1024 : Int) < p
    ·
     refine w_n (decide_eq_true hb4) ?_
     refine w_n (decide_eq_true hb4) ?_
     refine w_v (v := .bool true) (x_pick_t rfl rfl (decide_eq_true hb4) rfl) ?_
     refine w_m ?_
     refine w_n rfl ?_
     refine w_n rfl ?_
     refine w_n rfl ?_
     refine w_v (v := .bool true) (x_pick_t rfl rfl rfl rfl) ?_
     refine w_m ?_
     refine w_n rfl ?_
     refine w_n rfl ?_
     refine w_v (v := .bool true) (x_pick_t rfl rfl rfl rfl) ?_
     refine w_m ?_
     refine w_n rfl ?_
     refine w_n rfl ?_
     refine w_v (v := .bool true) (x_pick_t rfl rfl rfl rfl) ?_
     refine w_e ?_
     refine g_weak [(0, .int .i64 n), (1, .int .i64 p), (2, .int .i64 l), (3, .int .i64 q), (4, .bool ft), (46, .bool true)] ⟨rfl, rfl, rfl, rfl, rfl, rfl, trivial⟩ ?_
     refine g_cond_t rfl rfl ?_
     refine w_s ?_
     refine w_r2 ?_
     refine w_e ?_
     refine g_ret ?_
     refine g_then_ret ?_
     refine fin_ret [.tmp 10, .tmp 11] [.pointer none, .int .i64 7] rfl ⟨rfl, rfl, trivial⟩ ?_
     exact .inr ⟨by unfold goodU; omega, rfl, H0.mask [true]⟩
    ·
     refine w_g (decide_eq_false hb4) xm ?_
     refine w_g (decide_eq_false hb4) (x_bin rfl rfl rfl b_lss) ?_
     refine w_v (v := .bool (decide ((l : Int) < 1))) (x_pick_f rfl rfl (decide_eq_false hb4) rfl) ?_
     refine w_m ?_
     by_cases hb5 : (l : Int) < 1
     ·
      refine w_n (decide_eq_true hb5) ?_
      refine w_n (decide_eq_true hb5) ?_
      refine w_n (decide_eq_true hb5) ?_
      refine w_v (v := .bool true) (x_pick_t rfl rfl (decide_eq_true hb5) rfl) ?_
      refine w_m ?_
      refine w_n rfl ?_
      refine w_n rfl ?_
      refine w_v (v := .bool true) (x_pick_t rfl rfl rfl rfl) ?_
      refine w_m ?_
      refine w_n rfl ?_
      refine w_n rfl ?_
      refine w_v (v := .bool true) (x_pick_t rfl rfl rfl rfl) ?_
      refine w_e ?_
      refine g_weak [(0, .int .i64 n), (1, .int .i64 p), (2, .int .i64 l), (3, .int .i64 q), (4, .bool ft), (46, .bool true)] ⟨rfl, rfl, rfl, rfl, rfl, rfl, trivial⟩ ?_
      refine g_cond_t rfl rfl ?_
      refine w_s ?_
      refine w_r2 ?_
      refine w_e ?_
      refine g_ret ?_
      refine g_then_ret ?_
      refine fin_ret [.tmp 10, .tmp 11] [.pointer none, .int .i64 7] rfl ⟨rfl, rfl, trivial⟩ ?_
      exact .inr ⟨by unfold goodU; omega, rfl, H0.mask [true]⟩
     ·
      refine w_g (decide_eq_false hb5) xm ?_
      refine w_g (decide_eq_false hb5) xm ?_
      refine w_g (decide_eq_false hb5) (x_bin rfl rfl rfl b_gtr) ?_
      refine w_v (v := .bool (decide ((p : Int) < l))) (x_pick_f rfl rfl (decide_eq_false hb5) rfl) ?_
      refine w_m ?_
      by_cases hb6 : (p : Int) < l
      ·
       refine w_n (decide_eq_true hb6) ?_
       refine w_n (decide_eq_true hb6) ?_
       refine w_v (v := .bool true) (x_pick_t rfl rfl (decide_eq_true hb6) rfl) ?_
       refine w_m ?_
       refine w_n rfl ?_
       refine w_n rfl ?_
       refine w_v (v := .bool true) (x_pick_t rfl rfl rfl rfl) ?_
       refine w_e ?_
       refine g_weak [(0, .int .i64 n), (1, .int .i64 p), (2, .int .i64 l), (3, .int .i64 q), (4, .bool ft), (46, .bool true)] ⟨rfl, rfl, rfl, rfl, rfl, rfl, trivial⟩ ?_
       refine g_cond_t rfl rfl ?_
       refine w_s ?_
       refine w_r2 ?_
       refine w_e ?_
       refine g_ret ?_
       refine g_then_ret ?_
       refine fin_ret [.tmp 10, .tmp 11] [.pointer none, .int .i64 7] rfl ⟨rfl, rfl, trivial⟩ ?_
       exact .inr ⟨by unfold goodU; omega, rfl, H0.mask [true]⟩
      ·
       refine w_g (decide_eq_false hb6) xm ?_
       refine w_g (decide_eq_false hb6) (x_bin rfl rfl rfl b_lss) ?_
       refine w_v (v := .bool (decide ((q : Int) < 1))) (x_pick_f rfl rfl (decide_eq_false hb6) rfl) ?_
       refine w_m ?_
       by_cases hb7 : (q : Int) < 1
       ·
        refine w_n (decide_eq_true hb7) ?_
        refine w_n (decide_eq_true hb7) ?_
        refine w_v (v := .bool true) (x_pick_t rfl rfl (decide_eq_true hb7) rfl) ?_
        refine w_e ?_
        refine g_weak [(0, .int .i64 n), (1, .int .i64 p), (2, .int .i64 l), (3, .int .i64 q), (4, .bool ft), (46, .bool true)] ⟨rfl, rfl, rfl, rfl, rfl, rfl, trivial⟩ ?_
        refine g_cond_t rfl rfl ?_
        refine w_s ?_
        refine w_r2 ?_
        refine w_e ?_
        refine g_ret ?_
        refine g_then_ret ?_
        refine fin_ret [.tmp 10, .tmp 11] [.pointer none, .int .i64 7] rfl ⟨rfl, rfl, trivial⟩ ?_
        exact .inr ⟨by unfold goodU; omega, rfl, H0.mask [true]⟩
       ·
        refine w_g (decide_eq_false hb7) xm ?_
        refine w_g (decide_eq_false hb7) (x_bin rfl rfl rfl b_gtr) ?_
        refine w_v (v := .bool (decide ((1000 : Int) < q))) (x_pick_f rfl rfl (decide_eq_false hb7) rfl) ?_
        refine w_e ?_
        refine g_weak [(0, .int .i64 n), (1, .int .i64 p), (2, .int .i64 l), (3, .int .i64 q), (4, .bool ft), (46, .bool (decide ((1000 : Int) < q)))] ⟨rfl, rfl, rfl, rfl, rfl, rfl, trivial⟩ ?_
        by_cases hb8 : (1000 : Int) < q
        ·
         refine g_cond_t rfl (decide_eq_true hb8) ?_
         refine w_s ?_
         refine w_r2 ?_
         refine w_e ?_
         refine g_ret ?_
         refine g_then_ret ?_
         refine fin_ret [.tmp 10, .tmp 11] [.pointer none, .int .i64 7] rfl ⟨rfl, rfl, trivial⟩ ?_
         exact .inr ⟨by unfold goodU; omega, rfl, H0.mask [true]⟩
        ·
         refine g_cond_f rfl (decide_eq_false hb8) ?_
         refine g_skip ?_
         refine g_then ?_
         refine w_s ?_
         refine w_r5 ?_
         refine w_v (v := .agg #[.int .i64 n, .int .i64 p, .int .i64 l, .int .i64 q, .bool ft]) (x_build (vs := [.int .i64 n, .int .i64 p, .int .i64 l, .int .i64 q, .bool ft]) rfl rfl (cells := #[.int .i64 n, .int .i64 p, .int .i64 l, .int .i64 q, .bool ft]) (by kernel_rfl)) ?_
         refine w_v (v := .agg #[.int .i64 n, .int .i64 p, .int .i64 l, .int .i64 q, .bool ft, .bool false, .bool false, .bool false, .string (⟨#[]⟩), .slice none 0 0, .slice none 0 0, .map none, .bool false, .bool false, .bool false, .string (⟨#[]⟩), .slice none 0 0, .slice none 0 0, .map none]) (x_build (vs := [.agg #[.int .i64 n, .int .i64 p, .int .i64 l, .int .i64 q, .bool ft]]) rfl rfl (cells := #[.int .i64 n, .int .i64 p, .int .i64 l, .int .i64 q, .bool ft, .bool false, .bool false, .bool false, .string (⟨#[]⟩), .slice none 0 0, .slice none 0 0, .map none, .bool false, .bool false, .bool false, .string (⟨#[]⟩), .slice none 0 0, .slice none 0 0, .map none]) (by kernel_rfl)) ?_
         refine l_of (s_box H0 (wt0 rfl) rfl rfl rfl rfl ?_)
         intro g9 wq10 H11
         refine w_a ?_
         refine w_e ?_
         refine g_weak [(0, .int .i64 n), (12, .pointer (some ⟨g9, 0, none⟩))] ⟨rfl, rfl, trivial⟩ ?_
         refine g_seq ?_
         refine w_s ?_
         refine w_m ?_
         refine w_e ?_
         refine g_block ?_
         refine g_rounds 3 ?_
         refine g_roundU ?_
         refine w_s ?_
         refine w_b ?_
         refine w_e ?_
         refine g_seq ?_
         refine g_cond_t rfl (by decide) ?_
         refine g_skip ?_
         refine g_then ?_
         refine g_seq ?_
         refine g_block ?_
         refine w_s ?_
         refine w_r2 ?_
         refine w_e ?_
         refine w_s ?_
         refine w_m ?_
         refine l_of (s_call0 H11 (wt0 rfl) (x_call' rfl rfl cl19) (new_b n _) rfl rfl ?_)
         intro wq12 H13
         refine w_r5 ?_
         refine w_e ?_
         refine g_region ?_
         refine w_r3 ?_
         refine l_of (s_makeMap (α := Bool) chK Value.bool chOk H13 (wt0 rfl) rfl rfl rfl ?_)
         intro mg14 wq15 H16
         refine w_v (v := .agg #[.bool false, .bool true, .bool false, .string ((newS n).1), .slice none 0 0, .slice none 0 0, .map (some mg14)]) (x_build (vs := [.bool true, .string ((newS n).1), .map (some mg14)]) rfl rfl (cells := #[.bool false, .bool true, .bool false, .string ((newS n).1), .slice none 0 0, .slice none 0 0, .map (some mg14)]) (by kernel_rfl)) ?_
         refine w_r2 ?_
         refine w_v (v := .pointer (some ⟨g9, 5, none⟩)) (x_indexAddrA 0 rfl rfl rfl Try.underlying55 sz54 (by omega) (off' := 5) rfl) ?_
         refine l_of (w_st #[.int .i64 n, .int .i64 p, .int .i64 l, .int .i64 q, .bool ft, .bool false, .bool true, .bool false, .string ((newS n).1), .slice none 0 0, .slice none 0 0, .map (some mg14), .bool false, .bool false, .bool false, .string (⟨#[]⟩), .slice none 0 0, .slice none 0 0, .map none] H16 1 ?_)
         intro wq17 H18
         refine g_nil ?_
         refine g_in ?_
         refine g_then ?_
         refine g_weak [(0, .int .i64 n), (12, .pointer (some ⟨g9, 0, none⟩)), (55, .int .i64 0)] ⟨rfl, rfl, rfl, trivial⟩ ?_
         refine g_region ?_
         refine w_b (v := .int .i64 1) (hb := (b_add (r := 1) (by decide))) ?_
         refine w_m ?_
         refine w_e ?_
         refine g_roundU ?_
         refine w_s ?_
         refine w_b ?_
         refine w_e ?_
         refine g_seq ?_
         refine g_cond_t rfl (by decide) ?_
         refine g_skip ?_
         refine g_then ?_
         refine g_seq ?_
         refine g_block ?_
         refine w_s ?_
         refine w_r2 ?_
         refine w_e ?_
         refine w_s ?_
         refine w_m ?_
         refine l_of (s_call0 H18 (wt0 rfl) (x_call' rfl rfl cl19) (new_b n _) rfl rfl ?_)
         intro wq19 H20
         refine w_r5 ?_
         refine w_e ?_
         refine g_region ?_
         refine w_r3 ?_
         refine l_of (s_makeMap (α := Bool) chK Value.bool chOk H20 (wt0 rfl) rfl rfl rfl ?_)
         intro mg21 wq22 H23
         refine w_v (v := .agg #[.bool false, .bool true, .bool false, .string ((newS n).1), .slice none 0 0, .slice none 0 0, .map (some mg21)]) (x_build (vs := [.bool true, .string ((newS n).1), .map (some mg21)]) rfl rfl (cells := #[.bool false, .bool true, .bool false, .string ((newS n).1), .slice none 0 0, .slice none 0 0, .map (some mg21)]) (by kernel_rfl)) ?_
         refine w_r2 ?_
         refine w_v (v := .pointer (some ⟨g9, 12, none⟩)) (x_indexAddrA 1 rfl rfl rfl Try.underlying55 sz54 (by omega) (off' := 12) rfl) ?_
         refine l_of (w_st #[.int .i64 n, .int .i64 p, .int .i64 l, .int .i64 q, .bool ft, .bool false, .bool true, .bool false, .string ((newS n).1), .slice none 0 0, .slice none 0 0, .map (some mg14), .bool false, .bool true, .bool false, .string ((newS n).1), .slice none 0 0, .slice none 0 0, .map (some mg21)] H23 2 ?_)
         intro wq24 H25
         refine g_nil ?_
         refine g_in ?_
         refine g_then ?_
         refine g_weak [(0, .int .i64 n), (12, .pointer (some ⟨g9, 0, none⟩)), (55, .int .i64 1)] ⟨rfl, rfl, rfl, trivial⟩ ?_
         refine g_region ?_
         refine w_b (v := .int .i64 2) (hb := (b_add (r := 2) (by decide))) ?_
         refine w_m ?_
         refine w_e ?_
         refine g_roundU ?_
         refine w_s ?_
         refine w_b ?_
         refine w_e ?_
         refine g_seq ?_
         refine g_cond_f rfl (by decide) ?_
         refine g_exit ?_
         refine g_then_exit ?_
         refine g_then_exit ?_
         refine g_in_hit ?_
         refine g_then ?_
         refine w_s ?_
         refine w_r3 ?_
         refine w_e ?_
         refine g_ret ?_
         refine fin_ret [.tmp 10, .tmp 11] [.pointer (some ⟨g9, 0, none⟩), .int .i64 0] rfl ⟨rfl, rfl, trivial⟩ ?_
         exact .inl ⟨by unfold goodU; omega, g9, ⟨none, 0, none, 0, mg14⟩, ⟨none, 0, none, 0, mg21⟩, rfl, ((((H25.nilRw 3 1).nilRw 49 3).nilRw 3 1).nilRw 49 3).takes [6, 3, 2, 4, 1, 0, 5, 7] (by decide)⟩
end Go.Proofs.Ytdkfkdekiljcoaa
