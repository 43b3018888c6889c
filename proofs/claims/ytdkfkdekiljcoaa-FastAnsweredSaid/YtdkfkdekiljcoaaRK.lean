import Derived.Test.YtdkfkdekiljcoaaRF
set_option linter.unusedSimpArgs false
set_option linter.unusedVariables false
namespace Go.Proofs.Ytdkfkdekiljcoaa
open Go.RowKit

theorem cl15 : callable Try.prog 15 = true := by kernel_rfl
theorem cl18 : callable Try.prog 18 = true := by kernel_rfl
theorem cl7 : callable Try.prog 7 = true := by kernel_rfl
theorem cl8 : callable Try.prog 8 = true := by kernel_rfl
theorem fo35_1 : foO Try.prog 35 1 = some 1 := by kernel_rfl
theorem sz35 : szO Try.prog 35 = some 9 := by kernel_rfl
theorem ze35 : zeO Try.prog 35 = some (.agg #[.bool false, .int .i64 0, .int .i64 0, .int .i64 0, .int .i64 0, .int .i64 0, .int .i64 0, .string (⟨#[]⟩), .string (⟨#[]⟩)]) := by kernel_rfl
structure Sn where
  o : Bool
  m : M
def S0 : Sn := ⟨false, ⟨0, 0, 0, 0, 0, 0, ⟨#[]⟩, ⟨#[]⟩⟩⟩
def snL (x : Sn) : List Value := [.bool x.o, .int .i64 x.m.kind, .int .i64 x.m.i1, .int .i64 x.m.i2, .int .i64 x.m.i3, .int .i64 x.m.i4, .int .i64 x.m.i5, .string x.m.root, .string x.m.data]
def snV (l : List Sn) : List Value := l.flatMap snL
theorem snV_at {l : List Sn} {j : Nat} (h : j < l.length) : ∀ i u, (snL (l.getD j S0))[i]? = some u → (snV l)[j * 9 + i]? = some u :=
  flat_at (size := 9) (fun _ _ => rfl) (by rw [List.getD_eq_getElem?_getD, List.getElem?_eq_getElem h]; rfl)
theorem newF_ok {n p l q : Int} (ft : Bool) (hg : goodU n p l q) (w : World) : Calls Try.prog 7 #[.int .i64 n, .int .i64 p, .int .i64 l, .int .i64 q, .bool ft] w fun e w' => ∃ (gq : Nat) (B0 B1 : Ad), e = .returned (.tuple #[.pointer (some ⟨gq, 0, none⟩), .int .i64 0]) ∧ S w' ([Ob gq (.cells (sgC true (Co.mk n p l q ft) [.bool ((Wy.new n).bg), .bool ((Wy.new n).ck), .bool ((Wy.new n).wt), .string ((Wy.new n).fd), .slice B1.pa (Wy.new n).al.length B1.ca, .slice B1.pw (Wy.new n).wa.length B1.cw, .map (some B1.mg)] [.bool ((Wy.new n).bg), .bool ((Wy.new n).ck), .bool ((Wy.new n).wt), .string ((Wy.new n).fd), .slice B0.pa (Wy.new n).al.length B0.ca, .slice B0.pw (Wy.new n).wa.length B0.cw, .map (some B0.mg)]) 57 (0, 0)), Rw 3 1 B1.pa (Wy.new n).al.length B1.ca (zV (Wy.new n).al), Rw 49 3 B1.pw (Wy.new n).wa.length B1.cw (chV (Wy.new n).wa), Mp chK Value.bool chOk B1.mg (Wy.new n).go, Rw 3 1 B0.pa (Wy.new n).al.length B0.ca (zV (Wy.new n).al), Rw 49 3 B0.pw (Wy.new n).wa.length B0.cw (chV (Wy.new n).wa), Mp chK Value.bool chOk B0.mg (Wy.new n).go] ++ [Old w no]) :=
  (newF_s n p l q ft w).mono fun e w' h => by
    rcases h with ⟨_, h⟩ | ⟨h, _⟩
    · exact h
    · exact absurd hg h
theorem newF_no {n p l q : Int} (ft : Bool) (hg : ¬ goodU n p l q) (w : World) : Calls Try.prog 7 #[.int .i64 n, .int .i64 p, .int .i64 l, .int .i64 q, .bool ft] w fun e w' => e = .returned (.tuple #[.pointer none, .int .i64 7]) ∧ S w' [Old w no] :=
  (newF_s n p l q ft w).mono fun e w' h => by
    rcases h with ⟨h, _⟩ | ⟨_, h⟩
    · exact absurd h hg
    · exact h
def aC : Co := ⟨1, 16, 16, 5, true⟩
def aM1 : M := ⟨13, 0, 0, 0, 0, 0, ⟨#[]⟩, ⟨#[]⟩⟩
def aM2 : M := ⟨14, 0, 0, 0, 0, 0, ⟨#[]⟩, ⟨#[]⟩⟩
def aM3 : M := ⟨8, 0, 0, 16, 0, 0, ⟨#[]⟩, ⟨#[]⟩⟩
def aA1 : Wy := mayO aC (Wy.new 1) (Wy.new 1) aM1
def aA0 : Wy := mayQ aC (Wy.new 1) (Wy.new 1) aM1
def aB0 : Wy := mayO aC aA0 aA1 aM2
def aB1 : Wy := mayQ aC aA0 aA1 aM2
def aD0 : Wy := mayO aC aB0 aB1 aM3
def aD1 : Wy := mayQ aC aB0 aB1 aM3
theorem aE1 : mayE aC (Wy.new 1) (Wy.new 1) aM1 = 0 := by kernel_rfl
theorem aE2 : mayE aC aA0 aA1 aM2 = 0 := by kernel_rfl
theorem aE3 : mayE aC aB0 aB1 aM3 = 0 := by kernel_rfl
theorem aO : owedS aD1 = [⟨0, 0, 16⟩] := by kernel_rfl
theorem aN : 1 ≤ aC.n ∧ aC.n ≤ 4096 := ⟨by show (1 : Int) ≤ 1; omega, by show (1 : Int) ≤ 4096; omega⟩
theorem aW : WK aC 0 (Wy.new 1) := WK.new (c := aC) ⟨by show (0 : Int) ≤ 1; omega, by show (1 : Int) ≤ 4096; omega⟩
theorem aWA1 : WK aC 1 aA1 := aW.mayO aN
theorem aWA0 : WK aC 1 aA0 := aW.mayQ aN
theorem aWB0 : WK aC 2 aB0 := aWA0.mayO aN
theorem aWB1 : WK aC 2 aB1 := aWA1.mayQ aN
theorem aWD1 : WK aC 3 aD1 := aWB1.mayQ aN
set_option maxRecDepth 20000 in
set_option maxHeartbeats 4000000 in
set_option maxRecDepth 20000 in
set_option maxHeartbeats 4000000 in
theorem light_s (l : List Sn) (p : Option Addr) (c : Nat) (hm : l.length ≤ 9223372036854775807) (w : World) (hr : Reads w p l.length c 9 (snV l)) : Calls Try.prog 5 #[.slice p l.length c] w fun e w' => ∃ b : Bool, e = .returned (.bool b) ∧ (b = true → l.length ≤ 60) ∧ S w' [Old w no] := by
  have H0 := S.old w
  refine enter 19 Try.func5 rfl rfl rfl ?_
  refine g_weak [(0, .slice p l.length c)] ⟨rfl, trivial⟩ ?_
  refine g_seq ?_
  refine g_region ?_
  refine l_of (s_val (v := .bool false) (wt0 rfl) rfl rfl (x_assign rfl rfl) ?_)
  refine g_nil ?_
  refine g_then ?_
  refine g_seq ?_
  refine g_seq ?_
  refine g_region ?_
  refine l_of (s_val (v := .slice p l.length c) (wt0 rfl) rfl rfl (x_move rfl rfl) ?_)
  refine l_of (s_val (v := .int .i64 ((l.length : Int))) (wt0 rfl) rfl rfl (x_lenl rfl rfl Try.underlying24) ?_)
  refine l_of (s_val (v := .int .i64 0) (wt0 rfl) rfl rfl (x_move rfl rfl) ?_)
  refine g_nil ?_
  refine g_then ?_
  refine g_block ?_
  refine g_loop (ι := Nat) (fun j => [(0, .slice p l.length c), (5, .slice p l.length c), (6, .int .i64 ((l.length : Int))), (7, .int .i64 ((j : Int)))]) (fun j wx => (j ≤ l.length) ∧ S wx [Old w no]) (fun j => l.length - j) (0) ⟨rfl, rfl, rfl, rfl, trivial⟩ ⟨Nat.zero_le _, H0⟩ ?_
  rintro j wq1 ⟨hj, H2⟩
  replace H2 : S wq1 [Old w no] := H2
  refine g_weak [(0, .slice p l.length c), (5, .slice p l.length c), (6, .int .i64 ((l.length : Int))), (7, .int .i64 ((j : Int)))] ⟨rfl, rfl, rfl, rfl, trivial⟩ ?_
  refine g_seq ?_
  refine g_region ?_
  refine l_of (s_val (v := .bool (decide (((j : Int) : Int) < (l.length : Int)))) (wt0 rfl) rfl rfl (x_bin rfl rfl rfl b_lss) ?_)
  refine g_nil ?_
  refine g_then ?_
  refine g_seq ?_
  by_cases hb3 : ((j : Int) : Int) < (l.length : Int)
  · skip
    refine g_cond_t rfl (decide_eq_true hb3) ?_
    refine g_skip ?_
    refine g_then ?_
    refine g_seq ?_
    refine g_block ?_
    refine g_seq ?_
    refine g_region ?_
    refine l_of (s_val (v := .pointer ((p).map fun q => q.add (j * 9))) (wt0 rfl) rfl rfl (x_idxR j (H2.oldReads (k := 0) rfl hr) rfl rfl rfl Try.underlying24 sz35 (by omega)) ?_)
    refine l_of (s_val (v := .agg #[.bool ((l.getD (j) S0).o), .int .i64 ((l.getD (j) S0).m.kind), .int .i64 ((l.getD (j) S0).m.i1), .int .i64 ((l.getD (j) S0).m.i2), .int .i64 ((l.getD (j) S0).m.i3), .int .i64 ((l.getD (j) S0).m.i4), .int .i64 ((l.getD (j) S0).m.i5), .string ((l.getD (j) S0).m.root), .string ((l.getD (j) S0).m.data)]) (wt0 rfl) rfl rfl (x_loadRA (vs := (snL (l.getD (j) S0))) j (H2.oldReads (k := 0) rfl hr) (by omega) rfl rfl Try.underlying35 rfl sz35 (by rfl) (snV_at (by omega))) ?_)
    refine l_of (s_alloc H2 (wt0 rfl) rfl rfl rfl ze35 ?_)
    intro g4 wq5 H6
    refine l_of (s_store H6 0 (wt0 rfl) rfl rfl rfl rfl rfl sz35 rfl rfl (cs' := #[.bool ((l.getD (j) S0).o), .int .i64 ((l.getD (j) S0).m.kind), .int .i64 ((l.getD (j) S0).m.i1), .int .i64 ((l.getD (j) S0).m.i2), .int .i64 ((l.getD (j) S0).m.i3), .int .i64 ((l.getD (j) S0).m.i4), .int .i64 ((l.getD (j) S0).m.i5), .string ((l.getD (j) S0).m.root), .string ((l.getD (j) S0).m.data)]) rfl ?_)
    intro wq7 H8
    refine g_nil ?_
    refine g_then ?_
    refine g_seq ?_
    refine g_region ?_
    refine l_of (s_val (v := .pointer (some ⟨g4, 1, none⟩)) (wt0 rfl) rfl rfl (x_fieldAddr rfl rfl fo35_1 rfl) ?_)
    refine l_of (s_val (v := .agg #[.int .i64 ((l.getD (j) S0).m.kind), .int .i64 ((l.getD (j) S0).m.i1), .int .i64 ((l.getD (j) S0).m.i2), .int .i64 ((l.getD (j) S0).m.i3), .int .i64 ((l.getD (j) S0).m.i4), .int .i64 ((l.getD (j) S0).m.i5), .string ((l.getD (j) S0).m.root), .string ((l.getD (j) S0).m.data)]) (wt0 rfl) rfl rfl (x_loadA H8 0 rfl rfl Try.underlying33 rfl sz33 rfl rfl rfl) ?_)
    refine l_of (s_call (wt0 rfl) (x_call' rfl rfl cl18) (light_p (l.getD j S0).m _) ?_)
    rintro _ wq9 ⟨rfl, H10⟩
    replace H10 : S wq9 [Ob g4 (.cells #[.bool ((l.getD (j) S0).o), .int .i64 ((l.getD (j) S0).m.kind), .int .i64 ((l.getD (j) S0).m.i1), .int .i64 ((l.getD (j) S0).m.i2), .int .i64 ((l.getD (j) S0).m.i3), .int .i64 ((l.getD (j) S0).m.i4), .int .i64 ((l.getD (j) S0).m.i5), .string ((l.getD (j) S0).m.root), .string ((l.getD (j) S0).m.data)] 35 (0, 0)), Old w no] := H8.absorb (new := []) H10
    refine b_ret rfl rfl ?_
    refine l_of (s_val (v := .bool (!((lightB (l.getD j S0).m)))) (wt0 rfl) rfl rfl (x_not (b := (lightB (l.getD j S0).m)) rfl rfl) ?_)
    refine g_nil ?_
    refine g_then ?_
    rcases Bool.eq_false_or_eq_true ((lightB (l.getD j S0).m)) with hb11 | hb11
    · skip
      refine g_cond_f rfl (neg_of hb11) ?_
      refine g_skip ?_
      refine g_in ?_
      refine g_then ?_
      refine g_region ?_
      refine l_of (s_val (v := .int .i64 ((j : Int) + 1)) (wt0 rfl) rfl rfl (x_bin rfl rfl rfl (b_add (w64 (by omega)))) ?_)
      refine l_of (s_val (v := .int .i64 ((j : Int) + 1)) (wt0 rfl) rfl rfl (x_move rfl rfl) ?_)
      refine g_nil ?_
      refine g_then ?_
      refine g_round (i := (j)) (j + 1) ?_ ?_ ?_
      · exact ⟨rfl, rfl, rfl, rfl, trivial⟩
      · exact ⟨by omega, (H10.mask [false, true])⟩
      · (try dsimp only); omega
    · skip
      refine g_cond_t rfl (neg_of hb11) ?_
      refine g_seq ?_
      refine g_region ?_
      refine l_of (s_val (v := .bool false) (wt0 rfl) rfl rfl (x_assign rfl rfl) ?_)
      refine g_nil ?_
      refine g_then ?_
      refine g_weak [(2, .bool false)] ⟨rfl, trivial⟩ ?_
      refine g_ret ?_
      refine g_in_ret ?_
      refine g_then_ret ?_
      refine g_then_ret ?_
      refine g_in_ret ?_
      refine g_then_ret ?_
      refine fin_ret [.tmp 2] [.bool false] rfl ⟨rfl, trivial⟩ ?_
      exact ⟨false, rfl, fun h => (by cases h), H10.mask [false, true]⟩
  · skip
    refine g_cond_f rfl (decide_eq_false hb3) ?_
    refine g_exit ?_
    refine g_then_exit ?_
    refine g_then_exit ?_
    refine g_in_hit ?_
    refine g_then ?_
    refine g_seq ?_
    refine g_region ?_
    refine l_of (s_val (v := .slice p l.length c) (wt0 rfl) rfl rfl (x_move rfl rfl) ?_)
    refine l_of (s_val (v := .int .i64 ((l.length : Int))) (wt0 rfl) rfl rfl (x_lenl rfl rfl Try.underlying24) ?_)
    refine l_of (s_val (v := .bool (decide (((l.length : Int) : Int) ≤ 60))) (wt0 rfl) rfl rfl (x_bin rfl rfl rfl b_leq) ?_)
    refine l_of (s_val (v := .bool (decide (((l.length : Int) : Int) ≤ 60))) (wt0 rfl) rfl rfl (x_assign rfl rfl) ?_)
    refine g_nil ?_
    refine g_then ?_
    refine g_ret ?_
    refine fin_ret [.tmp 2] [.bool (decide (((l.length : Int) : Int) ≤ 60))] rfl ⟨rfl, trivial⟩ ?_
    exact ⟨_, rfl, fun h => (by have := of_decide_eq_true h; omega), H2.mask [true]⟩
set_option maxRecDepth 20000 in
set_option maxHeartbeats 4000000 in
set_option maxRecDepth 20000 in
set_option maxHeartbeats 4000000 in
theorem awake_s (w : World) : Calls Try.prog 6 #[] w fun e w' => e = .returned (.bool true) ∧ S w' [Old w no] := by
  have H0 := S.old w
  refine enter 38 Try.func6 rfl rfl rfl ?_
  refine g_weak [] trivial ?_
  refine g_seq ?_
  refine g_region ?_
  refine l_of (s_val (v := .bool false) (wt0 rfl) rfl rfl (x_assign rfl rfl) ?_)
  refine g_nil ?_
  refine g_then ?_
  refine g_seq ?_
  refine g_region ?_
  refine l_of (s_call (wt0 rfl) (x_call' rfl rfl cl7) (newF_ok true ⟨by omega, by omega, by omega, by omega, by omega, by omega, by omega, by omega⟩ _) ?_)
  rintro _ wq4 ⟨sg1, B2, B3, rfl, H5⟩
  replace H5 : S wq4 [Ob sg1 (.cells (sgC true aC [.bool ((Wy.new 1).bg), .bool ((Wy.new 1).ck), .bool ((Wy.new 1).wt), .string ((Wy.new 1).fd), .slice B3.pa (Wy.new 1).al.length B3.ca, .slice B3.pw (Wy.new 1).wa.length B3.cw, .map (some B3.mg)] [.bool ((Wy.new 1).bg), .bool ((Wy.new 1).ck), .bool ((Wy.new 1).wt), .string ((Wy.new 1).fd), .slice B2.pa (Wy.new 1).al.length B2.ca, .slice B2.pw (Wy.new 1).wa.length B2.cw, .map (some B2.mg)]) 57 (0, 0)), Rw 3 1 B3.pa (Wy.new 1).al.length B3.ca (zV (Wy.new 1).al), Rw 49 3 B3.pw (Wy.new 1).wa.length B3.cw (chV (Wy.new 1).wa), Mp chK Value.bool chOk B3.mg (Wy.new 1).go, Rw 3 1 B2.pa (Wy.new 1).al.length B2.ca (zV (Wy.new 1).al), Rw 49 3 B2.pw (Wy.new 1).wa.length B2.cw (chV (Wy.new 1).wa), Mp chK Value.bool chOk B2.mg (Wy.new 1).go, Old w no] := H0.absorb (new := [Ob sg1 (.cells (sgC true aC [.bool ((Wy.new 1).bg), .bool ((Wy.new 1).ck), .bool ((Wy.new 1).wt), .string ((Wy.new 1).fd), .slice B3.pa (Wy.new 1).al.length B3.ca, .slice B3.pw (Wy.new 1).wa.length B3.cw, .map (some B3.mg)] [.bool ((Wy.new 1).bg), .bool ((Wy.new 1).ck), .bool ((Wy.new 1).wt), .string ((Wy.new 1).fd), .slice B2.pa (Wy.new 1).al.length B2.ca, .slice B2.pw (Wy.new 1).wa.length B2.cw, .map (some B2.mg)]) 57 (0, 0)), Rw 3 1 B3.pa (Wy.new 1).al.length B3.ca (zV (Wy.new 1).al), Rw 49 3 B3.pw (Wy.new 1).wa.length B3.cw (chV (Wy.new 1).wa), Mp chK Value.bool chOk B3.mg (Wy.new 1).go, Rw 3 1 B2.pa (Wy.new 1).al.length B2.ca (zV (Wy.new 1).al), Rw 49 3 B2.pw (Wy.new 1).wa.length B2.cw (chV (Wy.new 1).wa), Mp chK Value.bool chOk B2.mg (Wy.new 1).go]) H5
  refine b_ret rfl rfl ?_
  refine l_of (s_val (v := .tuple #[.pointer (some ⟨sg1, 0, none⟩), .int .i64 0]) (wt0 rfl) rfl rfl (x_move rfl rfl) ?_)
  refine l_of (s_val (v := .pointer (some ⟨sg1, 0, none⟩)) (wt0 rfl) rfl rfl (x_extract rfl rfl rfl) ?_)
  refine l_of (s_val (v := .int .i64 0) (wt0 rfl) rfl rfl (x_extract rfl rfl rfl) ?_)
  refine l_of (s_val (v := .pointer (some ⟨sg1, 0, none⟩)) (wt0 rfl) rfl rfl (x_assign rfl rfl) ?_)
  refine l_of (s_val (v := .int .i64 0) (wt0 rfl) rfl rfl (x_assign rfl rfl) ?_)
  refine g_nil ?_
  refine g_then ?_
  refine g_seq ?_
  refine g_seq ?_
  refine g_region ?_
  refine l_of (s_val (v := .int .i64 0) (wt0 rfl) rfl rfl (x_move rfl rfl) ?_)
  refine l_of (s_val (v := .bool (!decide ((0 : Int) = 0))) (wt0 rfl) rfl rfl (x_bin rfl rfl rfl b_neq) ?_)
  refine g_nil ?_
  refine g_then ?_
  refine g_cond_f rfl (nf rfl) ?_
  refine g_skip ?_
  refine g_then ?_
  refine g_seq ?_
  refine g_seq ?_
  refine g_region ?_
  refine l_of (s_val (v := .pointer (some ⟨sg1, 0, none⟩)) (wt0 rfl) rfl rfl (x_move rfl rfl) ?_)
  refine l_of (s_val (v := .agg #[.int .i64 13, .int .i64 0, .int .i64 0, .int .i64 0, .int .i64 0, .int .i64 0, .string (⟨#[]⟩), .string (⟨#[]⟩)]) (wt0 rfl) rfl rfl (x_build (vs := [.int .i64 13]) rfl rfl (cells := #[.int .i64 13, .int .i64 0, .int .i64 0, .int .i64 0, .int .i64 0, .int .i64 0, .string (⟨#[]⟩), .string (⟨#[]⟩)]) (by kernel_rfl)) ?_)
  have hst8 := stepF_o sg1 aC true B3 B2 (Wy.new 1) (Wy.new 1) aM1 aN (aW.wok (by omega)) (aW.wok (by omega)) wq4 (H5.takes [0, 1, 2, 3, 4, 5, 6] (by decide))
  rw [aE1] at hst8
  refine l_of (s_call (wt0 rfl) (x_call' rfl rfl cl8) (hst8) ?_)
  rintro _ wq9 ⟨B7, B6, rfl, H10⟩
  replace H10 : S wq9 [Ob sg1 (.cells (sgC true aC [.bool aA1.bg, .bool aA1.ck, .bool aA1.wt, .string (aA1.fd), .slice B7.pa aA1.al.length B7.ca, .slice B7.pw aA1.wa.length B7.cw, .map (some B7.mg)] [.bool aA0.bg, .bool aA0.ck, .bool aA0.wt, .string (aA0.fd), .slice B6.pa aA0.al.length B6.ca, .slice B6.pw aA0.wa.length B6.cw, .map (some B6.mg)]) 57 (0, 0)), Rw 3 1 B7.pa aA1.al.length B7.ca (zV aA1.al), Rw 49 3 B7.pw aA1.wa.length B7.cw (chV aA1.wa), Mp chK Value.bool chOk B7.mg aA1.go, Rw 3 1 B6.pa aA0.al.length B6.ca (zV aA0.al), Rw 49 3 B6.pw aA0.wa.length B6.cw (chV aA0.wa), Mp chK Value.bool chOk B6.mg aA0.go, Old w no] := H5.absorbI (new := [Ob sg1 (.cells (sgC true aC [.bool aA1.bg, .bool aA1.ck, .bool aA1.wt, .string (aA1.fd), .slice B7.pa aA1.al.length B7.ca, .slice B7.pw aA1.wa.length B7.cw, .map (some B7.mg)] [.bool aA0.bg, .bool aA0.ck, .bool aA0.wt, .string (aA0.fd), .slice B6.pa aA0.al.length B6.ca, .slice B6.pw aA0.wa.length B6.cw, .map (some B6.mg)]) 57 (0, 0)), Rw 3 1 B7.pa aA1.al.length B7.ca (zV aA1.al), Rw 49 3 B7.pw aA1.wa.length B7.cw (chV aA1.wa), Mp chK Value.bool chOk B7.mg aA1.go, Rw 3 1 B6.pa aA0.al.length B6.ca (zV aA0.al), Rw 49 3 B6.pw aA0.wa.length B6.cw (chV aA0.wa), Mp chK Value.bool chOk B6.mg aA0.go]) [0, 1, 2, 3, 4, 5, 6] H10
  refine b_ret rfl rfl ?_
  refine l_of (s_val (v := .bool (!decide ((0 : Int) = 0))) (wt0 rfl) rfl rfl (x_bin rfl rfl rfl b_neq) ?_)
  refine l_of (s_val (v := .bool (!decide ((0 : Int) = 0))) (wt0 rfl) rfl rfl (x_move rfl rfl) ?_)
  refine l_of (s_val (v := .pointer (some ⟨sg1, 0, none⟩)) (wt1 rfl rfl rfl rfl (nf rfl)) rfl rfl (x_move rfl rfl) ?_)
  refine l_of (s_val (v := .agg #[.int .i64 14, .int .i64 0, .int .i64 0, .int .i64 0, .int .i64 0, .int .i64 0, .string (⟨#[]⟩), .string (⟨#[]⟩)]) (wt1 rfl rfl rfl rfl (nf rfl)) rfl rfl (x_build (vs := [.int .i64 14]) rfl rfl (cells := #[.int .i64 14, .int .i64 0, .int .i64 0, .int .i64 0, .int .i64 0, .int .i64 0, .string (⟨#[]⟩), .string (⟨#[]⟩)]) (by kernel_rfl)) ?_)
  have hst13 := stepF_o sg1 aC false B6 B7 aA0 aA1 aM2 aN (aWA0.wok (by omega)) (aWA1.wok (by omega)) wq9 (H10.takes [0, 4, 5, 6, 1, 2, 3] (by decide))
  rw [aE2] at hst13
  refine l_of (s_call (wt1 rfl rfl rfl rfl (nf rfl)) (x_call' rfl rfl cl8) (hst13) ?_)
  rintro _ wq14 ⟨B11, B12, rfl, H15⟩
  replace H15 : S wq14 [Ob sg1 (.cells (sgC true aC [.bool aB1.bg, .bool aB1.ck, .bool aB1.wt, .string (aB1.fd), .slice B12.pa aB1.al.length B12.ca, .slice B12.pw aB1.wa.length B12.cw, .map (some B12.mg)] [.bool aB0.bg, .bool aB0.ck, .bool aB0.wt, .string (aB0.fd), .slice B11.pa aB0.al.length B11.ca, .slice B11.pw aB0.wa.length B11.cw, .map (some B11.mg)]) 57 (0, 0)), Rw 3 1 B11.pa aB0.al.length B11.ca (zV aB0.al), Rw 49 3 B11.pw aB0.wa.length B11.cw (chV aB0.wa), Mp chK Value.bool chOk B11.mg aB0.go, Rw 3 1 B12.pa aB1.al.length B12.ca (zV aB1.al), Rw 49 3 B12.pw aB1.wa.length B12.cw (chV aB1.wa), Mp chK Value.bool chOk B12.mg aB1.go, Old w no] := H10.absorbI (new := [Ob sg1 (.cells (sgC true aC [.bool aB1.bg, .bool aB1.ck, .bool aB1.wt, .string (aB1.fd), .slice B12.pa aB1.al.length B12.ca, .slice B12.pw aB1.wa.length B12.cw, .map (some B12.mg)] [.bool aB0.bg, .bool aB0.ck, .bool aB0.wt, .string (aB0.fd), .slice B11.pa aB0.al.length B11.ca, .slice B11.pw aB0.wa.length B11.cw, .map (some B11.mg)]) 57 (0, 0)), Rw 3 1 B11.pa aB0.al.length B11.ca (zV aB0.al), Rw 49 3 B11.pw aB0.wa.length B11.cw (chV aB0.wa), Mp chK Value.bool chOk B11.mg aB0.go, Rw 3 1 B12.pa aB1.al.length B12.ca (zV aB1.al), Rw 49 3 B12.pw aB1.wa.length B12.cw (chV aB1.wa), Mp chK Value.bool chOk B12.mg aB1.go]) [0, 4, 5, 6, 1, 2, 3] H15
  refine b_ret rfl rfl ?_
  refine l_of (s_val (v := .bool (!decide ((0 : Int) = 0))) (wt1 rfl rfl rfl rfl (nf rfl)) rfl rfl (x_bin rfl rfl rfl b_neq) ?_)
  refine l_of (s_val (v := .bool (!decide ((0 : Int) = 0))) (wt0 rfl) rfl rfl (x_pick_f rfl rfl (nf rfl) rfl) ?_)
  refine l_of (s_val (v := .bool (!decide ((0 : Int) = 0))) (wt0 rfl) rfl rfl (x_move rfl rfl) ?_)
  refine l_of (s_val (v := .pointer (some ⟨sg1, 0, none⟩)) (wt1 rfl rfl rfl rfl (nf rfl)) rfl rfl (x_move rfl rfl) ?_)
  refine l_of (s_val (v := .agg #[.int .i64 8, .int .i64 0, .int .i64 0, .int .i64 16, .int .i64 0, .int .i64 0, .string (⟨#[]⟩), .string (⟨#[]⟩)]) (wt1 rfl rfl rfl rfl (nf rfl)) rfl rfl (x_build (vs := [.int .i64 8, .int .i64 16]) rfl rfl (cells := #[.int .i64 8, .int .i64 0, .int .i64 0, .int .i64 16, .int .i64 0, .int .i64 0, .string (⟨#[]⟩), .string (⟨#[]⟩)]) (by kernel_rfl)) ?_)
  have hst18 := stepF_o sg1 aC false B11 B12 aB0 aB1 aM3 aN (aWB0.wok (by omega)) (aWB1.wok (by omega)) wq14 (H15.takes [0, 1, 2, 3, 4, 5, 6] (by decide))
  rw [aE3] at hst18
  refine l_of (s_call (wt1 rfl rfl rfl rfl (nf rfl)) (x_call' rfl rfl cl8) (hst18) ?_)
  rintro _ wq19 ⟨B16, B17, rfl, H20⟩
  replace H20 : S wq19 [Ob sg1 (.cells (sgC true aC [.bool aD1.bg, .bool aD1.ck, .bool aD1.wt, .string (aD1.fd), .slice B17.pa aD1.al.length B17.ca, .slice B17.pw aD1.wa.length B17.cw, .map (some B17.mg)] [.bool aD0.bg, .bool aD0.ck, .bool aD0.wt, .string (aD0.fd), .slice B16.pa aD0.al.length B16.ca, .slice B16.pw aD0.wa.length B16.cw, .map (some B16.mg)]) 57 (0, 0)), Rw 3 1 B16.pa aD0.al.length B16.ca (zV aD0.al), Rw 49 3 B16.pw aD0.wa.length B16.cw (chV aD0.wa), Mp chK Value.bool chOk B16.mg aD0.go, Rw 3 1 B17.pa aD1.al.length B17.ca (zV aD1.al), Rw 49 3 B17.pw aD1.wa.length B17.cw (chV aD1.wa), Mp chK Value.bool chOk B17.mg aD1.go, Old w no] := H15.absorbI (new := [Ob sg1 (.cells (sgC true aC [.bool aD1.bg, .bool aD1.ck, .bool aD1.wt, .string (aD1.fd), .slice B17.pa aD1.al.length B17.ca, .slice B17.pw aD1.wa.length B17.cw, .map (some B17.mg)] [.bool aD0.bg, .bool aD0.ck, .bool aD0.wt, .string (aD0.fd), .slice B16.pa aD0.al.length B16.ca, .slice B16.pw aD0.wa.length B16.cw, .map (some B16.mg)]) 57 (0, 0)), Rw 3 1 B16.pa aD0.al.length B16.ca (zV aD0.al), Rw 49 3 B16.pw aD0.wa.length B16.cw (chV aD0.wa), Mp chK Value.bool chOk B16.mg aD0.go, Rw 3 1 B17.pa aD1.al.length B17.ca (zV aD1.al), Rw 49 3 B17.pw aD1.wa.length B17.cw (chV aD1.wa), Mp chK Value.bool chOk B17.mg aD1.go]) [0, 1, 2, 3, 4, 5, 6] H20
  refine b_ret rfl rfl ?_
  refine l_of (s_val (v := .bool (!decide ((0 : Int) = 0))) (wt1 rfl rfl rfl rfl (nf rfl)) rfl rfl (x_bin rfl rfl rfl b_neq) ?_)
  refine l_of (s_val (v := .bool (!decide ((0 : Int) = 0))) (wt0 rfl) rfl rfl (x_pick_f rfl rfl (nf rfl) rfl) ?_)
  refine g_nil ?_
  refine g_then ?_
  refine g_weak [(1, .pointer (some ⟨sg1, 0, none⟩)), (25, .bool (!decide ((0 : Int) = 0)))] ⟨rfl, rfl, trivial⟩ ?_
  refine g_cond_f rfl (nf rfl) ?_
  refine g_skip ?_
  refine g_then ?_
  refine g_seq ?_
  refine g_region ?_
  refine l_of (s_val (v := .pointer (some ⟨sg1, 0, none⟩)) (wt0 rfl) rfl rfl (x_move rfl rfl) ?_)
  have how23 := owed_o sg1 aC true B17 B16 aD1 aD0 (Nat.le_trans aWD1.al (by omega)) (Nat.le_trans aWD1.wa (by omega)) aWD1.ok wq19 (H20.takes [0, 4, 5, 6, 1, 2, 3] (by decide))
  rw [aO] at how23
  refine l_of (s_call (wt0 rfl) (x_call' rfl rfl cl15) (how23) ?_)
  rintro _ wq24 ⟨p21, c22, rfl, H25⟩
  replace H25 : S wq24 [Rw 49 3 p21 1 c22 [.int .i64 0, .int .i64 0, .int .i64 16], Ob sg1 (.cells (sgC true aC [.bool aD1.bg, .bool aD1.ck, .bool aD1.wt, .string (aD1.fd), .slice B17.pa aD1.al.length B17.ca, .slice B17.pw aD1.wa.length B17.cw, .map (some B17.mg)] [.bool aD0.bg, .bool aD0.ck, .bool aD0.wt, .string (aD0.fd), .slice B16.pa aD0.al.length B16.ca, .slice B16.pw aD0.wa.length B16.cw, .map (some B16.mg)]) 57 (0, 0)), Rw 3 1 B17.pa aD1.al.length B17.ca (zV aD1.al), Rw 49 3 B17.pw aD1.wa.length B17.cw (chV aD1.wa), Mp chK Value.bool chOk B17.mg aD1.go, Rw 3 1 B16.pa aD0.al.length B16.ca (zV aD0.al), Rw 49 3 B16.pw aD0.wa.length B16.cw (chV aD0.wa), Mp chK Value.bool chOk B16.mg aD0.go, Old w no] := H20.absorbI (new := [Rw 49 3 p21 1 c22 [.int .i64 0, .int .i64 0, .int .i64 16], Ob sg1 (.cells (sgC true aC [.bool aD1.bg, .bool aD1.ck, .bool aD1.wt, .string (aD1.fd), .slice B17.pa aD1.al.length B17.ca, .slice B17.pw aD1.wa.length B17.cw, .map (some B17.mg)] [.bool aD0.bg, .bool aD0.ck, .bool aD0.wt, .string (aD0.fd), .slice B16.pa aD0.al.length B16.ca, .slice B16.pw aD0.wa.length B16.cw, .map (some B16.mg)]) 57 (0, 0)), Rw 3 1 B17.pa aD1.al.length B17.ca (zV aD1.al), Rw 49 3 B17.pw aD1.wa.length B17.cw (chV aD1.wa), Mp chK Value.bool chOk B17.mg aD1.go, Rw 3 1 B16.pa aD0.al.length B16.ca (zV aD0.al), Rw 49 3 B16.pw aD0.wa.length B16.cw (chV aD0.wa), Mp chK Value.bool chOk B16.mg aD0.go]) [0, 4, 5, 6, 1, 2, 3] H25
  refine b_ret rfl rfl ?_
  refine l_of (s_val (v := .slice p21 1 c22) (wt0 rfl) rfl rfl (x_assign rfl rfl) ?_)
  refine g_nil ?_
  refine g_then ?_
  refine g_seq ?_
  refine g_region ?_
  refine l_of (s_val (v := .slice p21 1 c22) (wt0 rfl) rfl rfl (x_move rfl rfl) ?_)
  refine l_of (s_val (v := .int .i64 1) (wt0 rfl) rfl rfl (x_lenl rfl rfl Try.underlying37) ?_)
  refine l_of (s_val (v := .bool (decide ((1 : Int) = 1))) (wt0 rfl) rfl rfl (x_bin rfl rfl rfl b_eql) ?_)
  refine l_of (s_val (v := .bool (decide ((1 : Int) = 1))) (wt0 rfl) rfl rfl (x_move rfl rfl) ?_)
  refine l_of (s_val (v := .slice p21 1 c22) (wt1 rfl rfl rfl rfl (decide_eq_true rfl)) rfl rfl (x_move rfl rfl) ?_)
  refine l_of (s_val (v := .pointer ((p21).map fun q => q.add (0 * 3))) (wt1 rfl rfl rfl rfl (decide_eq_true rfl)) rfl rfl (x_idxR 0 (H25.rwReads (k := 0) rfl) rfl rfl rfl Try.underlying37 sz49 (by omega)) ?_)
  refine l_of (s_val (v := .agg #[.int .i64 0, .int .i64 0, .int .i64 16]) (wt1 rfl rfl rfl rfl (decide_eq_true rfl)) rfl rfl (x_loadRA (vs := [.int .i64 0, .int .i64 0, .int .i64 16]) 0 (H25.rwReads (k := 0) rfl) (by omega) rfl rfl Try.underlying49 rfl sz49 (by rfl) ((fun i u h => by simpa using h))) ?_)
  refine l_of (s_val (v := .agg #[.int .i64 0, .int .i64 0, .int .i64 16]) (wt1 rfl rfl rfl rfl (decide_eq_true rfl)) rfl rfl (x_build (vs := [.int .i64 16]) rfl rfl (cells := #[.int .i64 0, .int .i64 0, .int .i64 16]) (by kernel_rfl)) ?_)
  refine l_of (s_val (v := .bool (decide ((⟨0, 0, 16⟩ : Ch) = (⟨0, 0, 16⟩ : Ch)))) (wt1 rfl rfl rfl rfl (decide_eq_true rfl)) rfl rfl (x_bin rfl rfl rfl (b_chE (⟨0, 0, 16⟩ : Ch) (⟨0, 0, 16⟩ : Ch))) ?_)
  refine l_of (s_val (v := .bool (decide ((⟨0, 0, 16⟩ : Ch) = (⟨0, 0, 16⟩ : Ch)))) (wt0 rfl) rfl rfl (x_pick_t rfl rfl (decide_eq_true rfl) rfl) ?_)
  refine l_of (s_val (v := .bool (decide ((⟨0, 0, 16⟩ : Ch) = (⟨0, 0, 16⟩ : Ch)))) (wt0 rfl) rfl rfl (x_assign rfl rfl) ?_)
  refine g_nil ?_
  refine g_then ?_
  refine g_weak [(0, .bool (decide ((⟨0, 0, 16⟩ : Ch) = (⟨0, 0, 16⟩ : Ch))))] ⟨rfl, trivial⟩ ?_
  refine g_ret ?_
  refine fin_ret [.tmp 0] [.bool (decide ((⟨0, 0, 16⟩ : Ch) = (⟨0, 0, 16⟩ : Ch)))] rfl ⟨rfl, trivial⟩ ?_
  exact ⟨rfl, H25.mask [false, false, false, false, false, false, false, false, true]⟩
end Go.Proofs.Ytdkfkdekiljcoaa
