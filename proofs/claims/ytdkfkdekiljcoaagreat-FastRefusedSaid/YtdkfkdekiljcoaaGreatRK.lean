import Derived.Test.YtdkfkdekiljcoaaGreatRF
set_option linter.unusedSimpArgs false
set_option linter.unusedVariables false
namespace Go.Proofs.YtdkfkdekiljcoaaGreat
open Go.RowKit

theorem cl16 : callable Tryz.prog 16 = true := by kernel_rfl
theorem cl17 : callable Tryz.prog 17 = true := by kernel_rfl
theorem cl18 : callable Tryz.prog 18 = true := by kernel_rfl
theorem cl8 : callable Tryz.prog 8 = true := by kernel_rfl
theorem sz28 : szO Tryz.prog 28 = some 9 := by kernel_rfl
theorem ze28 : zeO Tryz.prog 28 = some (.agg #[.bool false, .int .i64 0, .int .i64 0, .int .i64 0, .int .i64 0, .int .i64 0, .int .i64 0, .string (⟨#[]⟩), .string (⟨#[]⟩)]) := by kernel_rfl
structure Sn where
  o : Bool
  m : M
def S0 : Sn := ⟨false, ⟨0, 0, 0, 0, 0, 0, ⟨#[]⟩, ⟨#[]⟩⟩⟩
def snL (x : Sn) : List Value := [.bool x.o, .int .i64 x.m.kind, .int .i64 x.m.i1, .int .i64 x.m.i2, .int .i64 x.m.i3, .int .i64 x.m.i4, .int .i64 x.m.i5, .string x.m.root, .string x.m.data]
def snV (l : List Sn) : List Value := l.flatMap snL
theorem snV_at {l : List Sn} {j : Nat} (h : j < l.length) : ∀ i u, (snL (l.getD j S0))[i]? = some u → (snV l)[j * 9 + i]? = some u :=
  flat_at (size := 9) (fun _ _ => rfl) (by rw [List.getD_eq_getElem?_getD, List.getElem?_eq_getElem h]; rfl)
theorem newF_ok {n p l q : Int} (ft : Bool) (hg : goodU n p l q) (w : World) : Calls Tryz.prog 17 #[.int .i64 n, .int .i64 p, .int .i64 l, .int .i64 q, .bool ft] w fun e w' => ∃ (gq : Nat) (B0 B1 : Ad), e = .returned (.tuple #[.pointer (some ⟨gq, 0, none⟩), .int .i64 0]) ∧ S w' ([sgI gq (Co.mk n p l q ft) true B1 B0 (Wy.new n) (Wy.new n), alI B1 (Wy.new n), waI B1 (Wy.new n), goI B1 (Wy.new n), alI B0 (Wy.new n), waI B0 (Wy.new n), goI B0 (Wy.new n)] ++ [Old w no]) :=
  (newF_s n p l q ft w).mono fun e w' h => by
    rcases h with ⟨_, h⟩ | ⟨h, _⟩
    · exact h
    · exact absurd hg h
theorem newF_no {n p l q : Int} (ft : Bool) (hg : ¬ goodU n p l q) (w : World) : Calls Tryz.prog 17 #[.int .i64 n, .int .i64 p, .int .i64 l, .int .i64 q, .bool ft] w fun e w' => e = .returned (.tuple #[.pointer none, .int .i64 7]) ∧ S w' [Old w no] :=
  (newF_s n p l q ft w).mono fun e w' h => by
    rcases h with ⟨h, _⟩ | ⟨_, h⟩
    · exact absurd h hg
    · exact h
theorem ch_neq (a b : Ch) (w : World) : (binOp .neq 49 (.agg a.cells) (.agg b.cells)).run Tryz.prog w = .ok (.bool (!decide (a = b))) w := by
  obtain ⟨a1, a2, a3⟩ := a
  obtain ⟨b1, b2, b3⟩ := b
  by_cases h1 : a1 = b1
  · subst h1
    by_cases h2 : a2 = b2
    · subst h2
      by_cases h3 : a3 = b3
      · subst h3; simp [Ch.cells, go_sem]
      · simp [Ch.cells, go_sem, h3]
    · simp [Ch.cells, go_sem, h2]
  · simp [Ch.cells, go_sem, h1]
theorem b_chN {xo yo : Operand} {w : World} (a b : Ch) : Bin Tryz.prog .neq 49 xo yo (.agg a.cells) (.agg b.cells) w (.bool (!decide (a = b))) := by
  unfold Bin
  simp only [Sem.run_bind, run_eqGuard_agg w .neq 49 xo yo a.cells b.cells eqgCh, Result.andThen_ok]
  exact ch_neq a b w
def aC : Co := ⟨1, 16, 16, 5, true⟩
def aM1 : M := ⟨13, 0, 0, 0, 0, 0, ⟨#[]⟩, ⟨#[]⟩⟩
def aM2 : M := ⟨14, 0, 0, 0, 0, 0, ⟨#[]⟩, ⟨#[]⟩⟩
def aM3 : M := ⟨8, 0, 0, 16, 0, 0, ⟨#[]⟩, ⟨#[]⟩⟩
def aA1 : Wy := mayO aC (Wy.new 1) (Wy.new 1) aM1
def aA0 : Wy := mayQ aC (Wy.new 1) (Wy.new 1) aM1
def aB0 : Wy := mayO aC aA0 aA1 aM2
def aB1 : Wy := mayQ aC aA0 aA1 aM2
def aD0 : Wy := mayO aC aB0 aB1 aM3
def aD1 : Wy := mayQ aC aB0 aB1 aM3
theorem aE1 : mayE aC (Wy.new 1) (Wy.new 1) aM1 = 0 := by kernel_rfl
theorem aE2 : mayE aC aA0 aA1 aM2 = 0 := by kernel_rfl
theorem aE3 : mayE aC aB0 aB1 aM3 = 0 := by kernel_rfl
theorem aO : owedS aD1 = [⟨0, 0, 16⟩] := by kernel_rfl
theorem aN : 1 ≤ aC.n ∧ aC.n ≤ 4096 := ⟨by show (1 : Int) ≤ 1; omega, by show (1 : Int) ≤ 4096; omega⟩
theorem aW : WK aC 0 (Wy.new 1) := WK.new (c := aC) ⟨by show (0 : Int) ≤ 1; omega, by show (1 : Int) ≤ 4096; omega⟩
theorem aWA1 : WK aC 1 aA1 := aW.mayO aN
theorem aWA0 : WK aC 1 aA0 := aW.mayQ aN
theorem aWB0 : WK aC 2 aB0 := aWA0.mayO aN
theorem aWB1 : WK aC 2 aB1 := aWA1.mayQ aN
theorem aWD1 : WK aC 3 aD1 := aWB1.mayQ aN
set_option maxRecDepth 20000 in
set_option maxHeartbeats 4000000 in
theorem light_s (l : List Sn) (p : Option Addr) (c : Nat) (hm : l.length ≤ 9223372036854775807) (w : World) (hr : Reads w p l.length c 9 (snV l)) : Calls Tryz.prog 5 #[.slice p l.length c] w fun e w' => ∃ b : Bool, e = .returned (.bool b) ∧ (b = true → l.length ≤ 60) ∧ S w' [Old w no] := by
 have H0 := S.old w
 refine enter 19 Tryz.func5 rfl rfl rfl ?_
 refine g_weak [(0, .slice p l.length c)] ⟨rfl, trivial⟩ ?_
 refine w_s ?_
 refine w_a ?_
 refine w_e ?_
 refine g_seq ?_
 refine w_s ?_
 refine w_m ?_
 refine w_v (v := .int .i64 ((l.length : Int))) (x_lenl rfl rfl Tryz.underlying24) ?_
 refine w_m ?_
 refine w_e ?_
 refine g_block ?_
 refine g_loop (ι := Nat) (fun j => [(0, .slice p l.length c), (5, .slice p l.length c), (6, .int .i64 ((l.length : Int))), (7, .int .i64 ((j : Int)))]) (fun j wx => (j ≤ l.length) ∧ S wx [Old w no]) (fun j => l.length - j) (0) ⟨rfl, rfl, rfl, rfl, trivial⟩ ⟨Nat.zero_le _, H0⟩ ?_
 rintro j wq1 ⟨hj, H2⟩
 refine g_weak [(0, .slice p l.length c), (5, .slice p l.length c), (6, .int .i64 ((l.length : Int))), (7, .int .i64 ((j : Int)))] ⟨rfl, rfl, rfl, rfl, trivial⟩ ?_
 refine w_s ?_
 refine w_b ?_
 refine w_e ?_
 refine g_seq ?_
 by_cases hb3 : ((j : Int) : Int) < (l.length : Int)
 ·
  refine g_cond_t rfl (decide_eq_true hb3) ?_
  refine g_skip ?_
  refine g_then ?_
  refine g_seq ?_
  refine g_block ?_
  refine w_s ?_
  refine w_v (v := .pointer ((p).map fun q => q.add (j * 9))) (x_idxR j (H2.oldReads (k := 0) rfl hr) rfl rfl rfl Tryz.underlying24 sz28 (by omega)) ?_
  refine w_v (v := .agg #[.bool ((l.getD (j) S0).o), .int .i64 ((l.getD (j) S0).m.kind), .int .i64 ((l.getD (j) S0).m.i1), .int .i64 ((l.getD (j) S0).m.i2), .int .i64 ((l.getD (j) S0).m.i3), .int .i64 ((l.getD (j) S0).m.i4), .int .i64 ((l.getD (j) S0).m.i5), .string ((l.getD (j) S0).m.root), .string ((l.getD (j) S0).m.data)]) (x_loadRA (vs := (snL (l.getD (j) S0))) j (H2.oldReads (k := 0) rfl hr) (by omega) rfl rfl Tryz.underlying28 rfl sz28 (by rfl) (snV_at (by omega))) ?_
  refine l_of (s_alloc H2 (wt0 rfl) rfl rfl rfl ze28 ?_)
  intro g4 wq5 H6
  refine l_of (w_st #[.bool ((l.getD (j) S0).o), .int .i64 ((l.getD (j) S0).m.kind), .int .i64 ((l.getD (j) S0).m.i1), .int .i64 ((l.getD (j) S0).m.i2), .int .i64 ((l.getD (j) S0).m.i3), .int .i64 ((l.getD (j) S0).m.i4), .int .i64 ((l.getD (j) S0).m.i5), .string ((l.getD (j) S0).m.root), .string ((l.getD (j) S0).m.data)] H6 0 ?_)
  intro wq7 H8
  refine w_e ?_
  refine w_s ?_
  refine w_f 1 ?_
  refine w_v (v := .agg #[.int .i64 ((l.getD (j) S0).m.kind), .int .i64 ((l.getD (j) S0).m.i1), .int .i64 ((l.getD (j) S0).m.i2), .int .i64 ((l.getD (j) S0).m.i3), .int .i64 ((l.getD (j) S0).m.i4), .int .i64 ((l.getD (j) S0).m.i5), .string ((l.getD (j) S0).m.root), .string ((l.getD (j) S0).m.data)]) (x_loadA H8 0 rfl rfl Tryz.underlying26 rfl sz26 rfl rfl rfl) ?_
  refine l_of (s_call0 H8 (wt0 rfl) (x_call' rfl rfl cl16) (light_p (l.getD j S0).m _) rfl rfl ?_)
  intro wq9 H10
  refine w_v (v := .bool (!((lightB (l.getD j S0).m)))) (x_not (b := (lightB (l.getD j S0).m)) rfl rfl) ?_
  refine w_e ?_
  rcases Bool.eq_false_or_eq_true ((lightB (l.getD j S0).m)) with hb11 | hb11
  ·
   refine g_cond_f rfl (neg_of hb11) ?_
   refine g_skip ?_
   refine g_in ?_
   refine g_then ?_
   refine g_region ?_
   refine w_b (v := .int .i64 ((j : Int) + 1)) (hb := (b_add (w64 (by omega)))) ?_
   refine w_m ?_
   refine w_e ?_
   refine g_round (i := (j)) (j + 1) ?_ ?_ ?_
   · exact ⟨rfl, rfl, rfl, rfl, trivial⟩
   · exact ⟨by omega, (H10.mask [false, true])⟩
   · (try dsimp only); omega
  ·
   refine g_cond_t rfl (neg_of hb11) ?_
   refine w_s ?_
   refine w_a ?_
   refine w_e ?_
   refine g_weak [(2, .bool false)] ⟨rfl, trivial⟩ ?_
   refine g_ret ?_
   refine g_in_ret ?_
   refine g_then_ret ?_
   refine g_then_ret ?_
   refine g_in_ret ?_
   refine g_then_ret ?_
   refine fin_ret [.tmp 2] [.bool false] rfl ⟨rfl, trivial⟩ ?_
   exact ⟨false, rfl, fun h => (by cases h), H10.mask [false, true]⟩
 ·
  refine g_cond_f rfl (decide_eq_false hb3) ?_
  refine g_exit ?_
  refine g_then_exit ?_
  refine g_then_exit ?_
  refine g_in_hit ?_
  refine g_then ?_
  refine w_s ?_
  refine w_m ?_
  refine w_v (v := .int .i64 ((l.length : Int))) (x_lenl rfl rfl Tryz.underlying24) ?_
  refine w_b ?_
  refine w_a ?_
  refine w_e ?_
  refine g_ret ?_
  refine fin_ret [.tmp 2] [.bool (decide (((l.length : Int) : Int) ≤ 60))] rfl ⟨rfl, trivial⟩ ?_
  exact ⟨_, rfl, fun h => (by have := of_decide_eq_true h; omega), H2.mask [true]⟩
set_option maxRecDepth 20000 in
set_option maxHeartbeats 4000000 in
theorem ints_s (l : List Int) (p q : Option Addr) (c d : Nat) (hm : l.length ≤ 1099511627776) (w : World) (hr : Reads w p l.length c 1 (zV l)) (hq : Reads w q l.length d 1 (zV l)) : Calls Tryz.prog 41 #[.slice p l.length c, .slice q l.length d] w fun e w' => e = .returned (.bool true) ∧ S w' [Old w no] := by
 have H0 := S.old w
 refine enter 26 Tryz.func41 rfl rfl rfl ?_
 refine g_weak [(0, .slice p l.length c), (1, .slice q l.length d)] ⟨rfl, rfl, trivial⟩ ?_
 refine w_s ?_
 refine w_a ?_
 refine w_e ?_
 refine g_seq ?_
 refine w_s ?_
 refine w_m ?_
 refine w_v (v := .int .i64 ((l.length : Int))) (x_lenl rfl rfl Tryz.underlying54) ?_
 refine w_m ?_
 refine w_v (v := .int .i64 ((l.length : Int))) (x_lenl rfl rfl Tryz.underlying54) ?_
 refine w_b (v := .bool (!decide (((l.length : Int) : Int) = (l.length : Int)))) (hb := b_neq) ?_
 refine w_e ?_
 refine g_cond_f rfl (nf rfl) ?_
 refine g_skip ?_
 refine g_then ?_
 refine g_seq ?_
 refine w_s ?_
 refine w_m ?_
 refine w_v (v := .int .i64 ((l.length : Int))) (x_lenl rfl rfl Tryz.underlying54) ?_
 refine w_m ?_
 refine w_e ?_
 refine g_block ?_
 refine g_loop (ι := Nat) (fun j => [(0, .slice p l.length c), (1, .slice q l.length d), (12, .int .i64 ((l.length : Int))), (13, .int .i64 ((j : Int)))]) (fun j wx => (j ≤ l.length) ∧ S wx [Old w no]) (fun j => l.length - j) (0) ⟨rfl, rfl, rfl, rfl, trivial⟩ ⟨Nat.zero_le _, H0⟩ ?_
 rintro j wq1 ⟨hj, H2⟩
 refine g_weak [(0, .slice p l.length c), (1, .slice q l.length d), (12, .int .i64 ((l.length : Int))), (13, .int .i64 ((j : Int)))] ⟨rfl, rfl, rfl, rfl, trivial⟩ ?_
 refine w_s ?_
 refine w_b ?_
 refine w_e ?_
 refine g_seq ?_
 by_cases hb3 : ((j : Int) : Int) < (l.length : Int)
 ·
  have hp1 : ∃ a, p = some a := ((H2.oldReads (k := 0) rfl hr).2.2 (by omega)).imp fun _ h => h.1
  have hp2 : ∃ a, q = some a := ((H2.oldReads (k := 0) rfl hq).2.2 (by omega)).imp fun _ h => h.1
  refine g_cond_t rfl (decide_eq_true hb3) ?_
  refine g_skip ?_
  refine g_then ?_
  refine g_seq ?_
  refine g_block ?_
  refine w_s ?_
  refine w_r2 ?_
  refine w_e ?_
  refine g_seq ?_
  refine g_quiet (by kernel_rfl) (by kernel_rfl) H2 ?_
  refine q_val (v := .slice p l.length c) (wt0 rfl) rfl rfl (fun wx H => x_move rfl rfl) ?_
  refine q_val (v := .int .i64 ((j : Int))) (wt0 rfl) rfl rfl (fun wx H => x_move rfl rfl) ?_
  refine q_val (v := .pointer ((p).map fun q => q.add (j * 1))) (wt0 rfl) rfl rfl (fun wx H => x_idxP j (hp1) rfl rfl rfl Tryz.underlying54 sz3 (by omega)) ?_
  refine q_val (v := .int .i64 ((l.getD (j) 0))) (wt0 rfl) rfl rfl (fun wx H => x_loadR1 j (H.oldReads (k := 0) rfl hr) (by omega) rfl rfl Tryz.underlying3 rfl (zV_at (by omega))) ?_
  refine q_val (v := .slice q l.length d) (wt0 rfl) rfl rfl (fun wx H => x_move rfl rfl) ?_
  refine q_val (v := .int .i64 ((j : Int))) (wt0 rfl) rfl rfl (fun wx H => x_move rfl rfl) ?_
  refine q_val (v := .pointer ((q).map fun q => q.add (j * 1))) (wt0 rfl) rfl rfl (fun wx H => x_idxP j (hp2) rfl rfl rfl Tryz.underlying54 sz3 (by omega)) ?_
  refine q_val (v := .int .i64 ((l.getD (j) 0))) (wt0 rfl) rfl rfl (fun wx H => x_loadR1 j (H.oldReads (k := 0) rfl hq) (by omega) rfl rfl Tryz.underlying3 rfl (zV_at (by omega))) ?_
  refine q_val (v := .bool (!decide (((l.getD (j) 0) : Int) = (l.getD (j) 0)))) (wt0 rfl) rfl rfl (fun wx H => x_bin rfl rfl rfl b_neq) ?_
  refine q_nil (fun wq4 H5 => ?_)
  refine g_then ?_
  refine g_cond_f rfl (nf rfl) ?_
  refine g_skip ?_
  refine g_in ?_
  refine g_then ?_
  refine g_weak [(0, .slice p l.length c), (1, .slice q l.length d), (12, .int .i64 ((l.length : Int))), (13, .int .i64 ((j : Int)))] ⟨rfl, rfl, rfl, rfl, trivial⟩ ?_
  refine g_region ?_
  refine w_b (v := .int .i64 ((j : Int) + 1)) (hb := (b_add (w64 (by omega)))) ?_
  refine w_m ?_
  refine w_e ?_
  refine g_round (i := (j)) (j + 1) ?_ ?_ ?_
  · exact ⟨rfl, rfl, rfl, rfl, trivial⟩
  · exact ⟨by omega, H5⟩
  · (try dsimp only); omega
 ·
  refine g_cond_f rfl (decide_eq_false hb3) ?_
  refine g_exit ?_
  refine g_then_exit ?_
  refine g_then_exit ?_
  refine g_in_hit ?_
  refine g_then ?_
  refine w_s ?_
  refine w_a ?_
  refine w_e ?_
  refine g_ret ?_
  refine fin_ret [.tmp 4] [.bool true] rfl ⟨rfl, trivial⟩ ?_
  exact ⟨rfl, H2.mask [true]⟩
set_option maxRecDepth 20000 in
set_option maxHeartbeats 4000000 in
theorem choices_s (l : List Ch) (p q : Option Addr) (c d : Nat) (hm : l.length ≤ 1099511627776) (w : World) (hr : Reads w p l.length c 3 (chV l)) (hq : Reads w q l.length d 3 (chV l)) : Calls Tryz.prog 37 #[.slice p l.length c, .slice q l.length d] w fun e w' => e = .returned (.bool true) ∧ S w' [Old w no] := by
 have H0 := S.old w
 refine enter 26 Tryz.func37 rfl rfl rfl ?_
 refine g_weak [(0, .slice p l.length c), (1, .slice q l.length d)] ⟨rfl, rfl, trivial⟩ ?_
 refine w_s ?_
 refine w_a ?_
 refine w_e ?_
 refine g_seq ?_
 refine w_s ?_
 refine w_m ?_
 refine w_v (v := .int .i64 ((l.length : Int))) (x_lenl rfl rfl Tryz.underlying46) ?_
 refine w_m ?_
 refine w_v (v := .int .i64 ((l.length : Int))) (x_lenl rfl rfl Tryz.underlying46) ?_
 refine w_b (v := .bool (!decide (((l.length : Int) : Int) = (l.length : Int)))) (hb := b_neq) ?_
 refine w_e ?_
 refine g_cond_f rfl (nf rfl) ?_
 refine g_skip ?_
 refine g_then ?_
 refine g_seq ?_
 refine w_s ?_
 refine w_m ?_
 refine w_v (v := .int .i64 ((l.length : Int))) (x_lenl rfl rfl Tryz.underlying46) ?_
 refine w_m ?_
 refine w_e ?_
 refine g_block ?_
 refine g_loop (ι := Nat) (fun j => [(0, .slice p l.length c), (1, .slice q l.length d), (12, .int .i64 ((l.length : Int))), (13, .int .i64 ((j : Int)))]) (fun j wx => (j ≤ l.length) ∧ S wx [Old w no]) (fun j => l.length - j) (0) ⟨rfl, rfl, rfl, rfl, trivial⟩ ⟨Nat.zero_le _, H0⟩ ?_
 rintro j wq1 ⟨hj, H2⟩
 refine g_weak [(0, .slice p l.length c), (1, .slice q l.length d), (12, .int .i64 ((l.length : Int))), (13, .int .i64 ((j : Int)))] ⟨rfl, rfl, rfl, rfl, trivial⟩ ?_
 refine w_s ?_
 refine w_b ?_
 refine w_e ?_
 refine g_seq ?_
 by_cases hb3 : ((j : Int) : Int) < (l.length : Int)
 ·
  have hp1 : ∃ a, p = some a := ((H2.oldReads (k := 0) rfl hr).2.2 (by omega)).imp fun _ h => h.1
  have hp2 : ∃ a, q = some a := ((H2.oldReads (k := 0) rfl hq).2.2 (by omega)).imp fun _ h => h.1
  refine g_cond_t rfl (decide_eq_true hb3) ?_
  refine g_skip ?_
  refine g_then ?_
  refine g_seq ?_
  refine g_block ?_
  refine w_s ?_
  refine w_r2 ?_
  refine w_e ?_
  refine g_seq ?_
  refine g_quiet (by kernel_rfl) (by kernel_rfl) H2 ?_
  refine q_val (v := .slice p l.length c) (wt0 rfl) rfl rfl (fun wx H => x_move rfl rfl) ?_
  refine q_val (v := .int .i64 ((j : Int))) (wt0 rfl) rfl rfl (fun wx H => x_move rfl rfl) ?_
  refine q_val (v := .pointer ((p).map fun q => q.add (j * 3))) (wt0 rfl) rfl rfl (fun wx H => x_idxP j (hp1) rfl rfl rfl Tryz.underlying46 sz49 (by omega)) ?_
  refine q_val (v := .agg #[.int .i64 ((l.getD (j) Ch.none).p), .int .i64 ((l.getD (j) Ch.none).b), .int .i64 ((l.getD (j) Ch.none).n)]) (wt0 rfl) rfl rfl (fun wx H => x_loadRA (vs := (l.getD (j) Ch.none).cellsL) j (H.oldReads (k := 0) rfl hr) (by omega) rfl rfl Tryz.underlying49 rfl sz49 (by rfl) (chV_at (by omega))) ?_
  refine q_val (v := .slice q l.length d) (wt0 rfl) rfl rfl (fun wx H => x_move rfl rfl) ?_
  refine q_val (v := .int .i64 ((j : Int))) (wt0 rfl) rfl rfl (fun wx H => x_move rfl rfl) ?_
  refine q_val (v := .pointer ((q).map fun q => q.add (j * 3))) (wt0 rfl) rfl rfl (fun wx H => x_idxP j (hp2) rfl rfl rfl Tryz.underlying46 sz49 (by omega)) ?_
  refine q_val (v := .agg #[.int .i64 ((l.getD (j) Ch.none).p), .int .i64 ((l.getD (j) Ch.none).b), .int .i64 ((l.getD (j) Ch.none).n)]) (wt0 rfl) rfl rfl (fun wx H => x_loadRA (vs := (l.getD (j) Ch.none).cellsL) j (H.oldReads (k := 0) rfl hq) (by omega) rfl rfl Tryz.underlying49 rfl sz49 (by rfl) (chV_at (by omega))) ?_
  refine q_val (v := .bool (!decide ((l.getD (j) Ch.none) = (l.getD (j) Ch.none)))) (wt0 rfl) rfl rfl (fun wx H => x_bin rfl rfl rfl (b_chN (l.getD (j) Ch.none) (l.getD (j) Ch.none))) ?_
  refine q_nil (fun wq4 H5 => ?_)
  refine g_then ?_
  refine g_cond_f rfl (nf rfl) ?_
  refine g_skip ?_
  refine g_in ?_
  refine g_then ?_
  refine g_weak [(0, .slice p l.length c), (1, .slice q l.length d), (12, .int .i64 ((l.length : Int))), (13, .int .i64 ((j : Int)))] ⟨rfl, rfl, rfl, rfl, trivial⟩ ?_
  refine g_region ?_
  refine w_b (v := .int .i64 ((j : Int) + 1)) (hb := (b_add (w64 (by omega)))) ?_
  refine w_m ?_
  refine w_e ?_
  refine g_round (i := (j)) (j + 1) ?_ ?_ ?_
  · exact ⟨rfl, rfl, rfl, rfl, trivial⟩
  · exact ⟨by omega, H5⟩
  · (try dsimp only); omega
 ·
  refine g_cond_f rfl (decide_eq_false hb3) ?_
  refine g_exit ?_
  refine g_then_exit ?_
  refine g_then_exit ?_
  refine g_in_hit ?_
  refine g_then ?_
  refine w_s ?_
  refine w_a ?_
  refine w_e ?_
  refine g_ret ?_
  refine fin_ret [.tmp 4] [.bool true] rfl ⟨rfl, trivial⟩ ?_
  exact ⟨rfl, H2.mask [true]⟩
set_option maxRecDepth 20000 in
set_option maxHeartbeats 4000000 in
theorem awake_s (w : World) : Calls Tryz.prog 6 #[] w fun e w' => e = .returned (.bool true) ∧ S w' [Old w no] := by
 have H0 := S.old w
 refine enter 38 Tryz.func6 rfl rfl rfl ?_
 refine g_weak [] trivial ?_
 refine w_s ?_
 refine w_a ?_
 refine w_e ?_
 refine w_s ?_
 refine l_of (s_call (wt0 rfl) (x_call' rfl rfl cl17) (newF_ok true ⟨by omega, by omega, by omega, by omega, by omega, by omega, by omega, by omega⟩ _) ?_)
 rintro _ wq4 ⟨sg1, B2, B3, rfl, H5⟩
 replace H5 : S wq4 [sgI sg1 aC true B3 B2 (Wy.new 1) (Wy.new 1), alI B3 (Wy.new 1), waI B3 (Wy.new 1), goI B3 (Wy.new 1), alI B2 (Wy.new 1), waI B2 (Wy.new 1), goI B2 (Wy.new 1), Old w no] := H0.absorb (new := [sgI sg1 aC true B3 B2 (Wy.new 1) (Wy.new 1), alI B3 (Wy.new 1), waI B3 (Wy.new 1), goI B3 (Wy.new 1), alI B2 (Wy.new 1), waI B2 (Wy.new 1), goI B2 (Wy.new 1)]) H5
 refine b_ret rfl rfl ?_
 refine w_r5 ?_
 refine w_e ?_
 refine g_seq ?_
 refine w_s ?_
 refine w_m ?_
 refine w_b (v := .bool (!decide ((0 : Int) = 0))) (hb := b_neq) ?_
 refine w_e ?_
 refine g_cond_f rfl (nf rfl) ?_
 refine g_skip ?_
 refine g_then ?_
 refine g_seq ?_
 refine w_s ?_
 refine w_m ?_
 refine w_v (v := .agg #[.int .i64 13, .int .i64 0, .int .i64 0, .int .i64 0, .int .i64 0, .int .i64 0, .string (⟨#[]⟩), .string (⟨#[]⟩)]) (x_build (vs := [.int .i64 13]) rfl rfl (cells := #[.int .i64 13, .int .i64 0, .int .i64 0, .int .i64 0, .int .i64 0, .int .i64 0, .string (⟨#[]⟩), .string (⟨#[]⟩)]) (by kernel_rfl)) ?_
 have hst8 := stepF_o sg1 aC true B3 B2 (Wy.new 1) (Wy.new 1) aM1 aN (aW.wok (by omega)) (aW.wok (by omega)) wq4 (H5.takes [0, 1, 2, 3, 4, 5, 6] (by decide))
 rw [aE1] at hst8
 refine l_of (s_call (wt0 rfl) (x_call' rfl rfl cl8) (hst8) ?_)
 rintro _ wq9 ⟨B7, B6, rfl, H10⟩
 replace H10 : S wq9 [sgI sg1 aC true B7 B6 aA1 aA0, alI B7 aA1, waI B7 aA1, goI B7 aA1, alI B6 aA0, waI B6 aA0, goI B6 aA0, Old w no] := by have h := H5.absorbI [0, 1, 2, 3, 4, 5, 6] H10; exact h
 refine b_ret rfl rfl ?_
 refine w_b (v := .bool (!decide ((0 : Int) = 0))) (hb := b_neq) ?_
 refine w_m ?_
 refine w_g (nf rfl) xm ?_
 refine w_g (v := .agg #[.int .i64 14, .int .i64 0, .int .i64 0, .int .i64 0, .int .i64 0, .int .i64 0, .string (⟨#[]⟩), .string (⟨#[]⟩)]) (nf rfl) (x_build (vs := [.int .i64 14]) rfl rfl (cells := #[.int .i64 14, .int .i64 0, .int .i64 0, .int .i64 0, .int .i64 0, .int .i64 0, .string (⟨#[]⟩), .string (⟨#[]⟩)]) (by kernel_rfl)) ?_
 have hst13 := stepF_o sg1 aC false B6 B7 aA0 aA1 aM2 aN (aWA0.wok (by omega)) (aWA1.wok (by omega)) wq9 (H10.takes [0, 4, 5, 6, 1, 2, 3] (by decide))
 rw [aE2] at hst13
 refine l_of (s_call (wt1 rfl rfl rfl rfl (nf rfl)) (x_call' rfl rfl cl8) (hst13) ?_)
 rintro _ wq14 ⟨B11, B12, rfl, H15⟩
 replace H15 : S wq14 [sgI sg1 aC true B12 B11 aB1 aB0, alI B11 aB0, waI B11 aB0, goI B11 aB0, alI B12 aB1, waI B12 aB1, goI B12 aB1, Old w no] := by have h := H10.absorbI [0, 4, 5, 6, 1, 2, 3] H15; exact h
 refine b_ret rfl rfl ?_
 refine w_g (v := .bool (!decide ((0 : Int) = 0))) (nf rfl) (x_bin rfl rfl rfl b_neq) ?_
 refine w_v (v := .bool (!decide ((0 : Int) = 0))) (x_pick_f rfl rfl (nf rfl) rfl) ?_
 refine w_m ?_
 refine w_g (nf rfl) xm ?_
 refine w_g (v := .agg #[.int .i64 8, .int .i64 0, .int .i64 0, .int .i64 16, .int .i64 0, .int .i64 0, .string (⟨#[]⟩), .string (⟨#[]⟩)]) (nf rfl) (x_build (vs := [.int .i64 8, .int .i64 16]) rfl rfl (cells := #[.int .i64 8, .int .i64 0, .int .i64 0, .int .i64 16, .int .i64 0, .int .i64 0, .string (⟨#[]⟩), .string (⟨#[]⟩)]) (by kernel_rfl)) ?_
 have hst18 := stepF_o sg1 aC false B11 B12 aB0 aB1 aM3 aN (aWB0.wok (by omega)) (aWB1.wok (by omega)) wq14 (H15.takes [0, 1, 2, 3, 4, 5, 6] (by decide))
 rw [aE3] at hst18
 refine l_of (s_call (wt1 rfl rfl rfl rfl (nf rfl)) (x_call' rfl rfl cl8) (hst18) ?_)
 rintro _ wq19 ⟨B16, B17, rfl, H20⟩
 replace H20 : S wq19 [sgI sg1 aC true B17 B16 aD1 aD0, alI B16 aD0, waI B16 aD0, goI B16 aD0, alI B17 aD1, waI B17 aD1, goI B17 aD1, Old w no] := by have h := H15.absorbI [0, 1, 2, 3, 4, 5, 6] H20; exact h
 refine b_ret rfl rfl ?_
 refine w_g (v := .bool (!decide ((0 : Int) = 0))) (nf rfl) (x_bin rfl rfl rfl b_neq) ?_
 refine w_v (v := .bool (!decide ((0 : Int) = 0))) (x_pick_f rfl rfl (nf rfl) rfl) ?_
 refine w_e ?_
 refine g_weak [(1, .pointer (some ⟨sg1, 0, none⟩)), (25, .bool (!decide ((0 : Int) = 0)))] ⟨rfl, rfl, trivial⟩ ?_
 refine g_cond_f rfl (nf rfl) ?_
 refine g_skip ?_
 refine g_then ?_
 refine w_s ?_
 refine w_m ?_
 have how23 := owed_o sg1 aC true B17 B16 aD1 aD0 (Nat.le_trans aWD1.al (by omega)) (Nat.le_trans aWD1.wa (by omega)) aWD1.ok wq19 (H20.takes [0, 4, 5, 6, 1, 2, 3] (by decide))
 rw [aO] at how23
 refine l_of (s_call (wt0 rfl) (x_call' rfl rfl cl18) (how23) ?_)
 rintro _ wq24 ⟨p21, c22, rfl, H25⟩
 replace H25 : S wq24 [Rw 49 3 p21 1 c22 [.int .i64 0, .int .i64 0, .int .i64 16], sgI sg1 aC true B17 B16 aD1 aD0, alI B17 aD1, waI B17 aD1, goI B17 aD1, alI B16 aD0, waI B16 aD0, goI B16 aD0, Old w no] := by have h := H20.absorbI [0, 4, 5, 6, 1, 2, 3] H25; exact h
 refine b_ret rfl rfl ?_
 refine w_a ?_
 refine w_e ?_
 refine w_s ?_
 refine w_m ?_
 refine w_v (v := .int .i64 1) (x_lenl rfl rfl Tryz.underlying46) ?_
 refine w_b ?_
 refine w_m ?_
 refine w_g (decide_eq_true rfl) xm ?_
 refine w_g (v := .pointer ((p21).map fun q => q.add (0 * 3))) (decide_eq_true rfl) (x_idxR 0 (H25.rwReads (k := 0) rfl) rfl rfl rfl Tryz.underlying46 sz49 (by omega)) ?_
 refine w_g (v := .agg #[.int .i64 0, .int .i64 0, .int .i64 16]) (decide_eq_true rfl) (x_loadRA (vs := [.int .i64 0, .int .i64 0, .int .i64 16]) 0 (H25.rwReads (k := 0) rfl) (by omega) rfl rfl Tryz.underlying49 rfl sz49 (by rfl) ((fun i u h => by simpa using h))) ?_
 refine w_g (v := .agg #[.int .i64 0, .int .i64 0, .int .i64 16]) (decide_eq_true rfl) (x_build (vs := [.int .i64 16]) rfl rfl (cells := #[.int .i64 0, .int .i64 0, .int .i64 16]) (by kernel_rfl)) ?_
 refine w_g (v := .bool (decide ((⟨0, 0, 16⟩ : Ch) = (⟨0, 0, 16⟩ : Ch)))) (decide_eq_true rfl) (x_bin rfl rfl rfl (b_chE (⟨0, 0, 16⟩ : Ch) (⟨0, 0, 16⟩ : Ch))) ?_
 refine w_v (v := .bool (decide ((⟨0, 0, 16⟩ : Ch) = (⟨0, 0, 16⟩ : Ch)))) (x_pick_t rfl rfl (decide_eq_true rfl) rfl) ?_
 refine w_a ?_
 refine w_e ?_
 refine g_weak [(0, .bool (decide ((⟨0, 0, 16⟩ : Ch) = (⟨0, 0, 16⟩ : Ch))))] ⟨rfl, trivial⟩ ?_
 refine g_ret ?_
 refine fin_ret [.tmp 0] [.bool (decide ((⟨0, 0, 16⟩ : Ch) = (⟨0, 0, 16⟩ : Ch)))] rfl ⟨rfl, trivial⟩ ?_
 exact ⟨rfl, H25.mask [false, false, false, false, false, false, false, false, true]⟩
end Go.Proofs.YtdkfkdekiljcoaaGreat
