import Derived.Test.YtdkfkdekiljcoaaGreatRK
import Derived.Test.YtdkfkdekiljcoaaGreatRJ
set_option linter.unusedSimpArgs false
set_option linter.unusedVariables false
namespace Go.Proofs.YtdkfkdekiljcoaaGreat
open Go.RowKit

theorem cl19 : callable Tryz.prog 19 = true := by kernel_rfl
theorem cl29 : callable Tryz.prog 29 = true := by kernel_rfl
theorem cl30 : callable Tryz.prog 30 = true := by kernel_rfl
theorem cl31 : callable Tryz.prog 31 = true := by kernel_rfl
theorem cl32 : callable Tryz.prog 32 = true := by kernel_rfl
theorem cl33 : callable Tryz.prog 33 = true := by kernel_rfl
theorem cl34 : callable Tryz.prog 34 = true := by kernel_rfl
theorem cl35 : callable Tryz.prog 35 = true := by kernel_rfl
theorem cl36 : callable Tryz.prog 36 = true := by kernel_rfl
theorem cl37 : callable Tryz.prog 37 = true := by kernel_rfl
theorem cl38 : callable Tryz.prog 38 = true := by kernel_rfl
theorem cl39 : callable Tryz.prog 39 = true := by kernel_rfl
theorem cl40 : callable Tryz.prog 40 = true := by kernel_rfl
theorem cl41 : callable Tryz.prog 41 = true := by kernel_rfl
theorem cl42 : callable Tryz.prog 42 = true := by kernel_rfl
theorem cl43 : callable Tryz.prog 43 = true := by kernel_rfl
theorem newR_ok {n p l q : Int} (ft : Bool) (hg : goodU n p l q) (w : World) : Calls Tryz.prog 19 #[.int .i64 n, .int .i64 p, .int .i64 l, .int .i64 q, .bool ft] w fun e w' => ∃ (gq : Nat) (B0 B1 : RAd), e = .returned (.tuple #[.pointer (some ⟨gq, 0, none⟩), .int .i64 0]) ∧ S w' ([rgI gq (Co.mk n p l q ft) true B1 B0 (Wy.new n) (Wy.new n), alR B1 (Wy.new n), rqI B1 (Wy.new n), alR B0 (Wy.new n), rqI B0 (Wy.new n)] ++ [Old w no]) :=
  (newR_s n p l q ft w).mono fun e w' h => by
    rcases h with ⟨_, h⟩ | ⟨h, _⟩
    · exact h
    · exact absurd hg h
theorem newR_no {n p l q : Int} (ft : Bool) (hg : ¬ goodU n p l q) (w : World) : Calls Tryz.prog 19 #[.int .i64 n, .int .i64 p, .int .i64 l, .int .i64 q, .bool ft] w fun e w' => e = .returned (.tuple #[.pointer none, .int .i64 7]) ∧ S w' [Old w no] :=
  (newR_s n p l q ft w).mono fun e w' h => by
    rcases h with ⟨h, _⟩ | ⟨_, h⟩
    · exact absurd h hg
    · exact h
set_option maxRecDepth 20000 in
set_option maxHeartbeats 4000000 in
theorem begin_ok (n p l q : Int) (ft : Bool) (hg : goodU n p l q) (w : World) : Calls Tryz.prog 7 #[.agg #[.int .i64 n, .int .i64 p, .int .i64 l, .int .i64 q, .bool ft]] w fun e w' => ∃ (gs : Nat) (B0 B1 : Ad) (gr : Nat) (C0 C1 : RAd), e = .returned (.tuple #[.pointer (some ⟨gs, 0, none⟩), .pointer (some ⟨gr, 0, none⟩), .bool true, .bool true]) ∧ S w' ([sgI gs (Co.mk n p l q ft) true B1 B0 (Wy.new n) (Wy.new n), alI B1 (Wy.new n), waI B1 (Wy.new n), goI B1 (Wy.new n), alI B0 (Wy.new n), waI B0 (Wy.new n), goI B0 (Wy.new n), rgI gr (Co.mk n p l q ft) true C1 C0 (Wy.new n) (Wy.new n), alR C1 (Wy.new n), rqI C1 (Wy.new n), alR C0 (Wy.new n), rqI C0 (Wy.new n)] ++ [Old w no]) := by
 have H0 := S.old w
 refine enter 52 Tryz.func7 rfl rfl rfl ?_
 refine g_weak [(0, .agg #[.int .i64 n, .int .i64 p, .int .i64 l, .int .i64 q, .bool ft])] ⟨rfl, trivial⟩ ?_
 refine w_s ?_
 refine l_of (s_box H0 (wt0 rfl) rfl rfl rfl rfl ?_)
 intro g1 wq2 H3
 refine w_r4 ?_
 refine w_e ?_
 refine w_s ?_
 refine w_f 0 ?_
 refine w_1 H3 0 ?_
 refine w_f 1 ?_
 refine w_1 H3 0 ?_
 refine w_f 2 ?_
 refine w_1 H3 0 ?_
 refine w_f 3 ?_
 refine w_1 H3 0 ?_
 refine w_f 4 ?_
 refine w_1 H3 0 ?_
 refine l_of (s_call (wt0 rfl) (x_call' rfl rfl cl17) (newF_ok ft hg _) ?_)
 rintro _ wq7 ⟨sg4, B5, B6, rfl, H8⟩
 replace H8 : S wq7 [sgI sg4 (Co.mk n p l q ft) true B6 B5 (Wy.new n) (Wy.new n), alI B6 (Wy.new n), waI B6 (Wy.new n), goI B6 (Wy.new n), alI B5 (Wy.new n), waI B5 (Wy.new n), goI B5 (Wy.new n), Ob g1 (.cells #[.int .i64 n, .int .i64 p, .int .i64 l, .int .i64 q, .bool ft] 23 (0, 0)), Old w no] := H3.absorb (new := [sgI sg4 (Co.mk n p l q ft) true B6 B5 (Wy.new n) (Wy.new n), alI B6 (Wy.new n), waI B6 (Wy.new n), goI B6 (Wy.new n), alI B5 (Wy.new n), waI B5 (Wy.new n), goI B5 (Wy.new n)]) H8
 refine b_ret rfl rfl ?_
 refine w_r5 ?_
 refine w_e ?_
 refine g_weak [(1, .pointer (some ⟨g1, 0, none⟩)), (6, .pointer (some ⟨sg4, 0, none⟩)), (7, .int .i64 0)] ⟨rfl, rfl, rfl, trivial⟩ ?_
 refine w_s ?_
 refine w_f 0 ?_
 refine w_1 H8 7 ?_
 refine w_f 1 ?_
 refine w_1 H8 7 ?_
 refine w_f 2 ?_
 refine w_1 H8 7 ?_
 refine w_f 3 ?_
 refine w_1 H8 7 ?_
 refine w_f 4 ?_
 refine w_1 H8 7 ?_
 refine l_of (s_call (wt0 rfl) (x_call' rfl rfl cl19) (newR_ok ft hg _) ?_)
 rintro _ wq12 ⟨rg9, B10, B11, rfl, H13⟩
 replace H13 : S wq12 [rgI rg9 (Co.mk n p l q ft) true B11 B10 (Wy.new n) (Wy.new n), alR B11 (Wy.new n), rqI B11 (Wy.new n), alR B10 (Wy.new n), rqI B10 (Wy.new n), sgI sg4 (Co.mk n p l q ft) true B6 B5 (Wy.new n) (Wy.new n), alI B6 (Wy.new n), waI B6 (Wy.new n), goI B6 (Wy.new n), alI B5 (Wy.new n), waI B5 (Wy.new n), goI B5 (Wy.new n), Ob g1 (.cells #[.int .i64 n, .int .i64 p, .int .i64 l, .int .i64 q, .bool ft] 23 (0, 0)), Old w no] := H8.absorb (new := [rgI rg9 (Co.mk n p l q ft) true B11 B10 (Wy.new n) (Wy.new n), alR B11 (Wy.new n), rqI B11 (Wy.new n), alR B10 (Wy.new n), rqI B10 (Wy.new n)]) H13
 refine b_ret rfl rfl ?_
 refine w_r5 ?_
 refine w_e ?_
 refine g_weak [(6, .pointer (some ⟨sg4, 0, none⟩)), (7, .int .i64 0), (8, .pointer (some ⟨rg9, 0, none⟩)), (9, .int .i64 0)] ⟨rfl, rfl, rfl, rfl, trivial⟩ ?_
 refine w_s ?_
 refine w_r4 ?_
 refine w_b ?_
 refine w_m ?_
 refine w_g (decide_eq_true rfl) xm ?_
 refine w_g (v := .bool false) (decide_eq_true rfl) (x_bin rfl rfl rfl (b_eqN (r := false) Tryz.underlying31 rfl)) ?_
 refine w_g (decide_eq_true rfl) xm ?_
 refine w_g (v := .bool (!decide ((0 : Int) = 0))) (decide_eq_true rfl) (x_bin rfl rfl rfl b_neq) ?_
 refine w_g (v := .bool ((false) == (!decide ((0 : Int) = 0)))) (decide_eq_true rfl) (x_bin rfl rfl rfl (b_eqN Tryz.underlying4 rfl)) ?_
 refine w_v (v := .bool ((false) == (!decide ((0 : Int) = 0)))) (x_pick_t rfl rfl (decide_eq_true rfl) rfl) ?_
 refine w_m ?_
 refine w_b ?_
 refine w_r4 ?_
 refine w_e ?_
 refine g_weak [(2, .pointer (some ⟨sg4, 0, none⟩)), (3, .pointer (some ⟨rg9, 0, none⟩)), (4, .bool ((false) == (!decide ((0 : Int) = 0)))), (5, .bool (decide ((0 : Int) = 0)))] ⟨rfl, rfl, rfl, rfl, trivial⟩ ?_
 refine g_ret ?_
 refine fin_ret [.tmp 2, .tmp 3, .tmp 4, .tmp 5] [.pointer (some ⟨sg4, 0, none⟩), .pointer (some ⟨rg9, 0, none⟩), .bool ((false) == (!decide ((0 : Int) = 0))), .bool (decide ((0 : Int) = 0))] rfl ⟨rfl, rfl, rfl, rfl, trivial⟩ ?_
 exact ⟨sg4, B5, B6, rg9, B10, B11, rfl, (H13.takes [5, 6, 7, 8, 9, 10, 11, 0, 1, 2, 3, 4, 13] (by decide))⟩
set_option maxRecDepth 20000 in
set_option maxHeartbeats 4000000 in
theorem begin_no (n p l q : Int) (ft : Bool) (hg : ¬ goodU n p l q) (w : World) : Calls Tryz.prog 7 #[.agg #[.int .i64 n, .int .i64 p, .int .i64 l, .int .i64 q, .bool ft]] w fun e w' => e = .returned (.tuple #[.pointer none, .pointer none, .bool true, .bool false]) ∧ S w' [Old w no] := by
 have H0 := S.old w
 refine enter 52 Tryz.func7 rfl rfl rfl ?_
 refine g_weak [(0, .agg #[.int .i64 n, .int .i64 p, .int .i64 l, .int .i64 q, .bool ft])] ⟨rfl, trivial⟩ ?_
 refine w_s ?_
 refine l_of (s_box H0 (wt0 rfl) rfl rfl rfl rfl ?_)
 intro g1 wq2 H3
 refine w_r4 ?_
 refine w_e ?_
 refine w_s ?_
 refine w_f 0 ?_
 refine w_1 H3 0 ?_
 refine w_f 1 ?_
 refine w_1 H3 0 ?_
 refine w_f 2 ?_
 refine w_1 H3 0 ?_
 refine w_f 3 ?_
 refine w_1 H3 0 ?_
 refine w_f 4 ?_
 refine w_1 H3 0 ?_
 refine l_of (s_call0 H3 (wt0 rfl) (x_call' rfl rfl cl17) (newF_no ft hg _) rfl rfl ?_)
 intro wq4 H5
 refine w_r5 ?_
 refine w_e ?_
 refine g_weak [(1, .pointer (some ⟨g1, 0, none⟩)), (6, .pointer none), (7, .int .i64 7)] ⟨rfl, rfl, rfl, trivial⟩ ?_
 refine w_s ?_
 refine w_f 0 ?_
 refine w_1 H5 0 ?_
 refine w_f 1 ?_
 refine w_1 H5 0 ?_
 refine w_f 2 ?_
 refine w_1 H5 0 ?_
 refine w_f 3 ?_
 refine w_1 H5 0 ?_
 refine w_f 4 ?_
 refine w_1 H5 0 ?_
 refine l_of (s_call0 H5 (wt0 rfl) (x_call' rfl rfl cl19) (newR_no ft hg _) rfl rfl ?_)
 intro wq6 H7
 refine w_r5 ?_
 refine w_e ?_
 refine g_weak [(6, .pointer none), (7, .int .i64 7), (8, .pointer none), (9, .int .i64 7)] ⟨rfl, rfl, rfl, rfl, trivial⟩ ?_
 refine w_s ?_
 refine w_r4 ?_
 refine w_b ?_
 refine w_m ?_
 refine w_g (decide_eq_true rfl) xm ?_
 refine w_g (v := .bool true) (decide_eq_true rfl) (x_bin rfl rfl rfl (b_eqN (r := true) Tryz.underlying31 rfl)) ?_
 refine w_g (decide_eq_true rfl) xm ?_
 refine w_g (v := .bool (!decide ((7 : Int) = 0))) (decide_eq_true rfl) (x_bin rfl rfl rfl b_neq) ?_
 refine w_g (v := .bool ((true) == (!decide ((7 : Int) = 0)))) (decide_eq_true rfl) (x_bin rfl rfl rfl (b_eqN Tryz.underlying4 rfl)) ?_
 refine w_v (v := .bool ((true) == (!decide ((7 : Int) = 0)))) (x_pick_t rfl rfl (decide_eq_true rfl) rfl) ?_
 refine w_m ?_
 refine w_b ?_
 refine w_r4 ?_
 refine w_e ?_
 refine g_weak [(2, .pointer none), (3, .pointer none), (4, .bool ((true) == (!decide ((7 : Int) = 0)))), (5, .bool (decide ((7 : Int) = 0)))] ⟨rfl, rfl, rfl, rfl, trivial⟩ ?_
 refine g_ret ?_
 refine fin_ret [.tmp 2, .tmp 3, .tmp 4, .tmp 5] [.pointer none, .pointer none, .bool ((true) == (!decide ((7 : Int) = 0))), .bool (decide ((7 : Int) = 0))] rfl ⟨rfl, rfl, rfl, rfl, trivial⟩ ?_
 exact ⟨rfl, H7.mask [false, true]⟩
set_option maxRecDepth 20000 in
set_option maxHeartbeats 4000000 in
theorem same_o (sg rg : Nat) (c : Co) (o : Bool) (A B : Ad) (R R2 : RAd) (a b : Wy) (ha : Wok c a) (hb : Wok c b) (ka : ∀ x ∈ a.wa, chOk x) (w : World) (HS : S w [sgI sg c o A B a b, alI A a, waI A a, goI A a, alI B b, waI B b, goI B b, rgI rg c o R R2 a b, alR R a, rqI R a, alR R2 b, rqI R2 b]) : Calls Tryz.prog 11 #[.pointer (some ⟨sg, 0, none⟩), .pointer (some ⟨rg, 0, none⟩), .bool o] w fun e w' => e = .returned (.bool true) ∧ S w' ([sgI sg c o A B a b, alI A a, waI A a, goI A a, alI B b, waI B b, goI B b, rgI rg c o R R2 a b, alR R a, rqI R a, alR R2 b, rqI R2 b] ++ [Old w (fps [sgI sg c o A B a b, alI A a, waI A a, goI A a, alI B b, waI B b, goI B b, rgI rg c o R R2 a b, alR R a, rqI R a, alR R2 b, rqI R2 b])]) := by
 have H0 := HS.beginI
 have hol : (owedS a).length ≤ 1099511627776 := by have h9 := owed_len a a.wa.length; rw [owed_all] at h9; exact Nat.le_trans h9 ha.wa
 refine enter 68 Tryz.func11 rfl rfl rfl ?_
 refine g_weak [(0, .pointer (some ⟨sg, 0, none⟩)), (1, .pointer (some ⟨rg, 0, none⟩)), (2, .bool o)] ⟨rfl, rfl, rfl, trivial⟩ ?_
 refine w_s ?_
 refine w_a ?_
 refine w_e ?_
 refine w_s ?_
 refine w_r2 ?_
 refine l_of (s_callK H0 [0, 1, 2, 3, 4, 5, 6] [0, 1, 2, 3, 4, 5, 6, 7, 8, 9, 10, 11, 12] (by decide) rfl (wt0 rfl) (x_call' rfl rfl cl29) (fun _ => field_o sg c o A B a b _ (H0.takes [0, 1, 2, 3, 4, 5, 6] (by decide))) (by decide) rfl rfl ?_)
 intro wq1 H3
 refine w_r2 ?_
 refine l_of (s_callK H3 [7, 8, 9, 10, 11] [5, 6, 7, 8, 9, 10, 11, 0, 1, 2, 3, 4, 12] (by decide) rfl (wt0 rfl) (x_call' rfl rfl cl30) (fun _ => fieldRR_o rg c o R R2 a b _ (H3.takes [7, 8, 9, 10, 11] (by decide))) (by decide) rfl rfl ?_)
 intro wq4 H6
 refine w_b (v := .bool (decide (a.fd = a.fd))) (hb := b_eqs) ?_
 refine w_m ?_
 refine w_g (decide_eq_true rfl) xm ?_
 refine w_g (decide_eq_true rfl) xm ?_
 refine l_of (s_callK H6 [0, 1, 2, 3, 4, 5, 6] [0, 1, 2, 3, 4, 5, 6, 7, 8, 9, 10, 11, 12] (by decide) rfl (wt1 rfl rfl rfl rfl (decide_eq_true rfl)) (x_call' rfl rfl cl31) (fun _ => choked_o sg c o A B a b _ (H6.takes [0, 1, 2, 3, 4, 5, 6] (by decide))) (by decide) rfl rfl ?_)
 intro wq7 H9
 refine w_g (decide_eq_true rfl) xm ?_
 refine w_g (decide_eq_true rfl) xm ?_
 refine l_of (s_callK H9 [7, 8, 9, 10, 11] [5, 6, 7, 8, 9, 10, 11, 0, 1, 2, 3, 4, 12] (by decide) rfl (wt1 rfl rfl rfl rfl (decide_eq_true rfl)) (x_call' rfl rfl cl32) (fun _ => chokedRR_o rg c o R R2 a b _ (H9.takes [7, 8, 9, 10, 11] (by decide))) (by decide) rfl rfl ?_)
 intro wq10 H12
 refine w_g (v := .bool ((a.ck) == (a.ck))) (decide_eq_true rfl) (x_bin rfl rfl rfl (b_eqN Tryz.underlying4 rfl)) ?_
 refine w_v (v := .bool ((a.ck) == (a.ck))) (x_pick_t rfl rfl (decide_eq_true rfl) rfl) ?_
 refine w_m ?_
 refine w_g (beq_self_eq_true (a.ck)) xm ?_
 refine w_g (beq_self_eq_true (a.ck)) xm ?_
 refine l_of (s_callK H12 [0, 1, 2, 3, 4, 5, 6] [0, 1, 2, 3, 4, 5, 6, 7, 8, 9, 10, 11, 12] (by decide) rfl (wt1 rfl rfl rfl rfl (beq_self_eq_true (a.ck))) (x_call' rfl rfl cl33) (fun _ => wants_o sg c o A B a b _ (H12.takes [0, 1, 2, 3, 4, 5, 6] (by decide))) (by decide) rfl rfl ?_)
 intro wq13 H15
 refine w_g (beq_self_eq_true (a.ck)) xm ?_
 refine w_g (beq_self_eq_true (a.ck)) xm ?_
 refine l_of (s_callK H15 [7, 8, 9, 10, 11] [5, 6, 7, 8, 9, 10, 11, 0, 1, 2, 3, 4, 12] (by decide) rfl (wt1 rfl rfl rfl rfl (beq_self_eq_true (a.ck))) (x_call' rfl rfl cl34) (fun _ => wantsRR_o rg c o R R2 a b _ (H15.takes [7, 8, 9, 10, 11] (by decide))) (by decide) rfl rfl ?_)
 intro wq16 H18
 refine w_g (v := .bool ((a.wt) == (a.wt))) (beq_self_eq_true (a.ck)) (x_bin rfl rfl rfl (b_eqN Tryz.underlying4 rfl)) ?_
 refine w_v (v := .bool ((a.wt) == (a.wt))) (x_pick_t rfl rfl (beq_self_eq_true (a.ck)) rfl) ?_
 refine w_m ?_
 refine w_g (beq_self_eq_true (a.wt)) xm ?_
 refine w_g (beq_self_eq_true (a.wt)) xm ?_
 refine l_of (s_callK H18 [0, 1, 2, 3, 4, 5, 6] [0, 1, 2, 3, 4, 5, 6, 7, 8, 9, 10, 11, 12] (by decide) rfl (wt1 rfl rfl rfl rfl (beq_self_eq_true (a.wt))) (x_call' rfl rfl cl35) (fun _ => begun_o sg c o A B a b _ (H18.takes [0, 1, 2, 3, 4, 5, 6] (by decide))) (by decide) rfl rfl ?_)
 intro wq19 H21
 refine w_g (beq_self_eq_true (a.wt)) xm ?_
 refine w_g (beq_self_eq_true (a.wt)) xm ?_
 refine l_of (s_callK H21 [7, 8, 9, 10, 11] [5, 6, 7, 8, 9, 10, 11, 0, 1, 2, 3, 4, 12] (by decide) rfl (wt1 rfl rfl rfl rfl (beq_self_eq_true (a.wt))) (x_call' rfl rfl cl36) (fun _ => begunRR_o rg c o R R2 a b _ (H21.takes [7, 8, 9, 10, 11] (by decide))) (by decide) rfl rfl ?_)
 intro wq22 H24
 refine w_g (v := .bool ((a.bg) == (a.bg))) (beq_self_eq_true (a.wt)) (x_bin rfl rfl rfl (b_eqN Tryz.underlying4 rfl)) ?_
 refine w_v (v := .bool ((a.bg) == (a.bg))) (x_pick_t rfl rfl (beq_self_eq_true (a.wt)) rfl) ?_
 refine w_m ?_
 refine w_g (beq_self_eq_true (a.bg)) xm ?_
 refine w_g (beq_self_eq_true (a.bg)) xm ?_
 refine l_of (s_call (wt1 rfl rfl rfl rfl (beq_self_eq_true (a.bg))) (x_call' rfl rfl cl38) (waiting_o sg c o A B a b ha.wa _ (H24.takes [0, 1, 2, 3, 4, 5, 6] (by decide))) ?_)
 rintro _ wq27 ⟨p25, c26, rfl, H28⟩
 replace H28 : S wq27 [Rw 49 3 p25 a.wa.length c26 (chV a.wa), sgI sg c o A B a b, alI A a, waI A a, goI A a, alI B b, waI B b, goI B b, rgI rg c o R R2 a b, alR R a, rqI R a, alR R2 b, rqI R2 b, Old w (fps [sgI sg c o A B a b, alI A a, waI A a, goI A a, alI B b, waI B b, goI B b, rgI rg c o R R2 a b, alR R a, rqI R a, alR R2 b, rqI R2 b])] := by have h := H24.absorbI [0, 1, 2, 3, 4, 5, 6] H28; exact h
 refine b_ret rfl rfl ?_
 refine w_g (beq_self_eq_true (a.bg)) xm ?_
 refine w_g (beq_self_eq_true (a.bg)) xm ?_
 refine l_of (s_call (wt1 rfl rfl rfl rfl (beq_self_eq_true (a.bg))) (x_call' rfl rfl cl39) (waitingR_o rg c o R R2 a b ha.wa _ (H28.takes [8, 9, 10, 11, 12] (by decide))) ?_)
 rintro _ wq31 ⟨p29, c30, rfl, H32⟩
 replace H32 : S wq31 [Rw 49 3 p29 a.wa.length c30 (chV a.wa), rgI rg c o R R2 a b, alR R a, rqI R a, alR R2 b, rqI R2 b, Rw 49 3 p25 a.wa.length c26 (chV a.wa), sgI sg c o A B a b, alI A a, waI A a, goI A a, alI B b, waI B b, goI B b, Old w (fps [sgI sg c o A B a b, alI A a, waI A a, goI A a, alI B b, waI B b, goI B b, rgI rg c o R R2 a b, alR R a, rqI R a, alR R2 b, rqI R2 b])] := by have h := H28.absorbI [8, 9, 10, 11, 12] H32; exact h
 refine b_ret rfl rfl ?_
 refine l_of (s_call0 H32 (wt1 rfl rfl rfl rfl (beq_self_eq_true (a.bg))) (x_call' rfl rfl cl37) (choices_s a.wa p25 p29 c26 c30 ha.wa _ (H32.rwReads (k := 6) rfl) (H32.rwReads (k := 0) rfl)) rfl rfl ?_)
 intro wq33 H34
 refine w_v (v := .bool true) (x_pick_t rfl rfl (beq_self_eq_true (a.bg)) rfl) ?_
 refine w_m ?_
 refine w_g rfl xm ?_
 refine w_g rfl xm ?_
 refine l_of (s_call (wt1 rfl rfl rfl rfl rfl) (x_call' rfl rfl cl18) (owed_o sg c o A B a b ha.al ha.wa ka _ (H34.takes [7, 8, 9, 10, 11, 12, 13] (by decide))) ?_)
 rintro _ wq37 ⟨p35, c36, rfl, H38⟩
 replace H38 : S wq37 [Rw 49 3 p35 (owedS a).length c36 (chV (owedS a)), sgI sg c o A B a b, alI A a, waI A a, goI A a, alI B b, waI B b, goI B b, Rw 49 3 p29 a.wa.length c30 (chV a.wa), rgI rg c o R R2 a b, alR R a, rqI R a, alR R2 b, rqI R2 b, Rw 49 3 p25 a.wa.length c26 (chV a.wa), Old w (fps [sgI sg c o A B a b, alI A a, waI A a, goI A a, alI B b, waI B b, goI B b, rgI rg c o R R2 a b, alR R a, rqI R a, alR R2 b, rqI R2 b])] := by have h := H34.absorbI [7, 8, 9, 10, 11, 12, 13] H38; exact h
 refine b_ret rfl rfl ?_
 refine w_g rfl xm ?_
 refine w_g rfl xm ?_
 refine l_of (s_call (wt1 rfl rfl rfl rfl rfl) (x_call' rfl rfl cl40) (owedR_o rg c o R R2 a b ha.al ha.wa _ (H38.takes [9, 10, 11, 12, 13] (by decide))) ?_)
 rintro _ wq41 ⟨p39, c40, rfl, H42⟩
 replace H42 : S wq41 [Rw 49 3 p39 (owedS a).length c40 (chV (owedS a)), rgI rg c o R R2 a b, alR R a, rqI R a, alR R2 b, rqI R2 b, Rw 49 3 p35 (owedS a).length c36 (chV (owedS a)), sgI sg c o A B a b, alI A a, waI A a, goI A a, alI B b, waI B b, goI B b, Rw 49 3 p29 a.wa.length c30 (chV a.wa), Rw 49 3 p25 a.wa.length c26 (chV a.wa), Old w (fps [sgI sg c o A B a b, alI A a, waI A a, goI A a, alI B b, waI B b, goI B b, rgI rg c o R R2 a b, alR R a, rqI R a, alR R2 b, rqI R2 b])] := by have h := H38.absorbI [9, 10, 11, 12, 13] H42; exact h
 refine b_ret rfl rfl ?_
 refine l_of (s_call0 H42 (wt1 rfl rfl rfl rfl rfl) (x_call' rfl rfl cl37) (choices_s (owedS a) p35 p39 c36 c40 hol _ (H42.rwReads (k := 6) rfl) (H42.rwReads (k := 0) rfl)) rfl rfl ?_)
 intro wq43 H44
 refine w_v (v := .bool true) (x_pick_t rfl rfl rfl rfl) ?_
 refine w_m ?_
 refine w_g rfl xm ?_
 refine w_g rfl xm ?_
 refine l_of (s_call (wt1 rfl rfl rfl rfl rfl) (x_call' rfl rfl cl42) (allowed_o sg c o A B a b ha.al _ (H44.takes [7, 8, 9, 10, 11, 12, 13] (by decide))) ?_)
 rintro _ wq47 ⟨p45, c46, rfl, H48⟩
 replace H48 : S wq47 [Rw 3 1 p45 a.al.length c46 (zV a.al), sgI sg c o A B a b, alI A a, waI A a, goI A a, alI B b, waI B b, goI B b, Rw 49 3 p39 (owedS a).length c40 (chV (owedS a)), rgI rg c o R R2 a b, alR R a, rqI R a, alR R2 b, rqI R2 b, Rw 49 3 p35 (owedS a).length c36 (chV (owedS a)), Rw 49 3 p29 a.wa.length c30 (chV a.wa), Rw 49 3 p25 a.wa.length c26 (chV a.wa), Old w (fps [sgI sg c o A B a b, alI A a, waI A a, goI A a, alI B b, waI B b, goI B b, rgI rg c o R R2 a b, alR R a, rqI R a, alR R2 b, rqI R2 b])] := by have h := H44.absorbI [7, 8, 9, 10, 11, 12, 13] H48; exact h
 refine b_ret rfl rfl ?_
 refine w_g rfl xm ?_
 refine w_g rfl xm ?_
 refine l_of (s_call (wt1 rfl rfl rfl rfl rfl) (x_call' rfl rfl cl43) (allows_o rg c o R R2 a b ha.al _ (H48.takes [9, 10, 11, 12, 13] (by decide))) ?_)
 rintro _ wq51 ⟨p49, c50, rfl, H52⟩
 replace H52 : S wq51 [Rw 3 1 p49 a.al.length c50 (zV a.al), rgI rg c o R R2 a b, alR R a, rqI R a, alR R2 b, rqI R2 b, Rw 3 1 p45 a.al.length c46 (zV a.al), sgI sg c o A B a b, alI A a, waI A a, goI A a, alI B b, waI B b, goI B b, Rw 49 3 p39 (owedS a).length c40 (chV (owedS a)), Rw 49 3 p35 (owedS a).length c36 (chV (owedS a)), Rw 49 3 p29 a.wa.length c30 (chV a.wa), Rw 49 3 p25 a.wa.length c26 (chV a.wa), Old w (fps [sgI sg c o A B a b, alI A a, waI A a, goI A a, alI B b, waI B b, goI B b, rgI rg c o R R2 a b, alR R a, rqI R a, alR R2 b, rqI R2 b])] := by have h := H48.absorbI [9, 10, 11, 12, 13] H52; exact h
 refine b_ret rfl rfl ?_
 refine l_of (s_call0 H52 (wt1 rfl rfl rfl rfl rfl) (x_call' rfl rfl cl41) (ints_s a.al p45 p49 c46 c50 ha.al _ (H52.rwReads (k := 6) rfl) (H52.rwReads (k := 0) rfl)) rfl rfl ?_)
 intro wq53 H54
 refine w_v (v := .bool true) (x_pick_t rfl rfl rfl rfl) ?_
 refine w_a ?_
 refine w_e ?_
 refine g_weak [(6, .bool true)] ⟨rfl, trivial⟩ ?_
 refine g_ret ?_
 refine fin_ret [.tmp 6] [.bool true] rfl ⟨rfl, trivial⟩ ?_
 exact ⟨rfl, (H54.takes [7, 8, 9, 10, 11, 12, 13, 1, 2, 3, 4, 5, 18] (by decide))⟩
end Go.Proofs.YtdkfkdekiljcoaaGreat
