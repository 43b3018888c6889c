import Derived.Test.YtlikhpfdncidkaaBe
import Derived.Test.YtlikhpfdncidkaaBf
set_option linter.unusedSimpArgs false
set_option linter.unusedVariables false
namespace Go.Proofs.Ytlikhpfdncidkaa
open Go.RowKit

theorem cl9 : callable Try.prog 9 = true := by kernel_rfl
theorem fo27_0 : foO Try.prog 27 0 = some 0 := by kernel_rfl
theorem fo27_1 : foO Try.prog 27 1 = some 1 := by kernel_rfl
theorem sz27 : szO Try.prog 27 = some 2 := by kernel_rfl
theorem ze27 : zeO Try.prog 27 = some (.agg #[.slice none 0 0, .slice none 0 0]) := by kernel_rfl
abbrev RR : Type := Ro Int × Ro Bool
def bV (l : List Bool) : List Value := l.map Value.bool
theorem bV_at {l : List Bool} {j : Nat} {x : Bool} (h : l[j]? = some x) : (bV l)[j * 1]? = some (.bool x) := by unfold bV; rw [Nat.mul_one, List.getElem?_map, h]; rfl
def rrL (x : RR) : List Value := [roV x.1, roV x.2]
def rrV (l : List RR) : List Value := l.flatMap rrL
structure RrOk (w : World) (x : RR) : Prop where
  n1 : x.1.l.length ≤ 9223372036854775807
  n2 : x.2.l.length ≤ 9223372036854775807
  o1 : ∀ y ∈ x.1.l, okI y
  r1 : Reads w x.1.p x.1.l.length x.1.c 1 (zV x.1.l)
  r2 : Reads w x.2.p x.2.l.length x.2.c 1 (bV x.2.l)
theorem ex_spoils {A0 A : BS} {i : Nat} {bd : Int → Option Bool} (h : PI A0 A i bd) {n : Nat} (hk : KN okI bd n) (hn : ¬ (n : Int) = 0) : ∃ p, spoils (A.nw 3) p := Classical.byContradiction fun hc => hn (by
  have := (pi_none h hk).2 fun p hp => hc ⟨p, hp⟩
  omega)
set_option maxRecDepth 20000 in
set_option maxHeartbeats 4000000 in
set_option maxRecDepth 20000 in
set_option maxHeartbeats 4000000 in
theorem plays_s (p : Option Addr) (nr c : Nat) (l : List RR) (n : Nat) (hnr : nr = l.length) (hn0 : 0 < n) (hn8 : n ≤ 8) (hl : l.length ≤ 11) (w : World) (hr : Reads w p nr c 2 (rrV l)) (hrr : ∀ x ∈ l, RrOk w x) : Calls Try.prog 9 #[.slice p nr c, .int .i64 ((n : Int))] w fun e w' => ∃ (X : BM) (mg : Nat) (M : Int → Option Bool) (ok : Bool), X.ok ∧ (∀ q, X.A.bn q = true → (M q).getD false = true) ∧ (ok = true → (∀ q, X.A.bn q = (M q).getD false) ∧ ∀ q, X.A.par q = false) ∧ e = .returned (.tuple #[.pointer (some ⟨X.b, 0, none⟩), .map (some mg), .bool ok]) ∧ S w' ([X.I, Mp (Value.int .i64) Value.bool okI mg M] ++ [Old w no]) := by
  have H0 := S.old w
  refine enter 100 Try.func9 rfl rfl rfl ?_
  refine g_weak [(0, .slice p nr c), (1, .int .i64 ((n : Int)))] ⟨rfl, rfl, trivial⟩ ?_
  refine g_seq ?_
  refine g_region ?_
  refine l_of (s_val (v := .pointer none) (wt0 rfl) rfl rfl (x_assign rfl rfl) ?_)
  refine l_of (s_val (v := .map none) (wt0 rfl) rfl rfl (x_assign rfl rfl) ?_)
  refine l_of (s_val (v := .bool false) (wt0 rfl) rfl rfl (x_assign rfl rfl) ?_)
  refine g_nil ?_
  refine g_then ?_
  refine g_seq ?_
  refine g_region ?_
  refine l_of (s_call (wt0 rfl) (x_call' rfl rfl cl12) (new_x _) ?_)
  rintro _ wq4 ⟨Y1, hYo2, hYA3, rfl, H5⟩
  replace H5 : S wq4 [Y1.I, Old w no] := H0.absorb (new := [Y1.I]) H5
  refine b_ret rfl rfl ?_
  refine l_of (s_val (v := .pointer (some ⟨Y1.b, 0, none⟩)) (wt0 rfl) rfl rfl (x_assign rfl rfl) ?_)
  refine g_nil ?_
  refine g_then ?_
  refine g_seq ?_
  refine g_region ?_
  refine l_of (s_makeMap (α := Bool) (Value.int .i64) Value.bool okI H5 (wt0 rfl) rfl rfl rfl ?_)
  intro mg6 wq7 H8
  replace H8 : S wq7 [Mp (Value.int .i64) Value.bool okI mg6 (fun _ => none), Y1.I, Old w no] := H8
  refine l_of (s_val (v := .map (some mg6)) (wt0 rfl) rfl rfl (x_assign rfl rfl) ?_)
  refine g_nil ?_
  refine g_then ?_
  refine g_seq ?_
  refine g_seq ?_
  refine g_region ?_
  refine l_of (s_val (v := .slice p nr c) (wt0 rfl) rfl rfl (x_move rfl rfl) ?_)
  refine l_of (s_val (v := .int .i64 ((nr : Int))) (wt0 rfl) rfl rfl (x_lenl rfl rfl Try.underlying22) ?_)
  refine l_of (s_val (v := .int .i64 0) (wt0 rfl) rfl rfl (x_move rfl rfl) ?_)
  refine g_nil ?_
  refine g_then ?_
  refine g_block ?_
  refine g_loop (ι := Nat × BM × BS × List Tr × (Int → Option Bool)) (fun (r, X, A, T, M) => [(1, .int .i64 ((n : Int))), (4, .pointer (some ⟨Y1.b, 0, none⟩)), (5, .map (some mg6)), (20, .slice p nr c), (21, .int .i64 ((nr : Int))), (22, .int .i64 ((r : Int)))]) (fun (r, X, A, T, M) wx => (r ≤ nr) ∧ (X.ok) ∧ (X.b = Y1.b) ∧ (X.A = A) ∧ (r ≤ 10 → PL A n T M) ∧ (T.length = r) ∧ (∀ q, A.bn q = true → (M q).getD false = true) ∧ S wx [X.I, Mp (Value.int .i64) Value.bool okI mg6 M, Old w no]) (fun (r, X, A, T, M) => nr - r) (0, Y1, BS.none, [], (fun _ => none)) ⟨rfl, rfl, rfl, rfl, rfl, rfl, trivial⟩ ⟨Nat.zero_le _, hYo2, rfl, hYA3, (fun _ => pl_none n), rfl, (fun q h => by cases h), (H8.takes [1, 0, 2] (by decide))⟩ ?_
  rintro ⟨r, X, A, T, M⟩ wq9 ⟨hri, hok, hbX, hXA, hPL, hT, hbm, H10⟩
  replace H10 : S wq9 [X.I, Mp (Value.int .i64) Value.bool okI mg6 M, Old w no] := H10
  refine g_weak [(1, .int .i64 ((n : Int))), (4, .pointer (some ⟨Y1.b, 0, none⟩)), (5, .map (some mg6)), (20, .slice p nr c), (21, .int .i64 ((nr : Int))), (22, .int .i64 ((r : Int)))] ⟨rfl, rfl, rfl, rfl, rfl, rfl, trivial⟩ ?_
  refine g_seq ?_
  refine g_region ?_
  refine l_of (s_val (v := .bool (decide (((r : Int) : Int) < (nr : Int)))) (wt0 rfl) rfl rfl (x_bin rfl rfl rfl b_lss) ?_)
  refine g_nil ?_
  refine g_then ?_
  refine g_seq ?_
  by_cases hb11 : ((r : Int) : Int) < (nr : Int)
  · skip
    obtain ⟨x, hx⟩ : ∃ x, l[r]? = some x := ⟨_, List.getElem?_eq_getElem (by omega)⟩
    have hx2 := hrr x (List.mem_of_getElem? hx)
    have hx3 := hx2.n1
    have hx4 := hx2.n2
    have hP := hPL (by omega)
    refine g_cond_t rfl (decide_eq_true hb11) ?_
    refine g_skip ?_
    refine g_then ?_
    refine g_seq ?_
    refine g_block ?_
    refine g_seq ?_
    refine g_region ?_
    refine l_of (s_val (v := .pointer ((p).map fun q => q.add (r * 2))) (wt0 rfl) rfl rfl (x_idxR r (H10.oldReads (k := 2) rfl hr) rfl rfl rfl Try.underlying22 sz27 (by omega)) ?_)
    refine l_of (s_val (v := .agg #[.slice x.1.p x.1.l.length x.1.c, .slice x.2.p x.2.l.length x.2.c]) (wt0 rfl) rfl rfl (x_loadRA (vs := (rrL x)) r (H10.oldReads (k := 2) rfl hr) (by omega) rfl rfl Try.underlying27 rfl sz27 (by rfl) (fun i u hu => flat_at (f := rrL) (size := 2) (fun _ _ => rfl) hx i u hu)) ?_)
    refine l_of (s_alloc H10 (wt0 rfl) rfl rfl rfl ze27 ?_)
    intro g12 wq13 H14
    refine l_of (s_store H14 0 (wt0 rfl) rfl rfl rfl rfl rfl sz27 rfl rfl (cs' := #[.slice x.1.p x.1.l.length x.1.c, .slice x.2.p x.2.l.length x.2.c]) rfl ?_)
    intro wq15 H16
    refine g_nil ?_
    refine g_then ?_
    refine g_seq ?_
    refine g_seq ?_
    refine g_region ?_
    refine l_of (s_val (v := .pointer (some ⟨g12, 0, none⟩)) (wt0 rfl) rfl rfl (x_fieldAddr rfl rfl fo27_0 rfl) ?_)
    refine l_of (s_val (v := .slice x.1.p x.1.l.length x.1.c) (wt0 rfl) rfl rfl (x_load1 H16 0 rfl rfl Try.underlying24 rfl rfl rfl) ?_)
    refine l_of (s_val (v := .int .i64 ((x.1.l.length : Int))) (wt0 rfl) rfl rfl (x_lenl rfl rfl Try.underlying24) ?_)
    refine l_of (s_val (v := .int .i64 ((n : Int))) (wt0 rfl) rfl rfl (x_move rfl rfl) ?_)
    refine l_of (s_val (v := .bool (decide (((x.1.l.length : Int) : Int) < (n : Int)))) (wt0 rfl) rfl rfl (x_bin rfl rfl rfl b_lss) ?_)
    refine g_nil ?_
    refine g_then ?_
    by_cases hb17 : ((x.1.l.length : Int) : Int) < (n : Int)
    · skip
      refine g_cond_t rfl (decide_eq_true hb17) ?_
      refine g_seq ?_
      refine g_region ?_
      refine l_of (s_val (v := .pointer (some ⟨Y1.b, 0, none⟩)) (wt0 rfl) rfl rfl (x_move rfl rfl) ?_)
      refine l_of (s_val (v := .map (some mg6)) (wt0 rfl) rfl rfl (x_move rfl rfl) ?_)
      refine l_of (s_val (v := .pointer (some ⟨Y1.b, 0, none⟩)) (wt0 rfl) rfl rfl (x_assign rfl rfl) ?_)
      refine l_of (s_val (v := .map (some mg6)) (wt0 rfl) rfl rfl (x_assign rfl rfl) ?_)
      refine l_of (s_val (v := .bool false) (wt0 rfl) rfl rfl (x_assign rfl rfl) ?_)
      refine g_nil ?_
      refine g_then ?_
      refine g_weak [(4, .pointer (some ⟨Y1.b, 0, none⟩)), (5, .map (some mg6)), (6, .bool false)] ⟨rfl, rfl, rfl, trivial⟩ ?_
      refine g_ret ?_
      refine g_then_ret ?_
      refine g_in_ret ?_
      refine g_then_ret ?_
      refine g_then_ret ?_
      refine g_in_ret ?_
      refine g_then_ret ?_
      refine fin_ret [.tmp 4, .tmp 5, .tmp 6] [.pointer (some ⟨Y1.b, 0, none⟩), .map (some mg6), .bool false] rfl ⟨rfl, rfl, rfl, trivial⟩ ?_
      exact ⟨X, mg6, M, false, hok, by rw [hXA]; exact hbm, fun h => (by cases h), (by rw [hbX]; rfl), H16.takes [1, 2, 3] (by decide)⟩
    · skip
      refine g_cond_f rfl (decide_eq_false hb17) ?_
      refine g_skip ?_
      refine g_then ?_
      refine g_seq ?_
      refine g_region ?_
      refine l_of (s_makeMap (α := Bool) (Value.int .i64) Value.bool okI H16 (wt0 rfl) rfl rfl rfl ?_)
      intro mg18 wq19 H20
      replace H20 : S wq19 [Mp (Value.int .i64) Value.bool okI mg18 (fun _ => none), Ob g12 (.cells #[.slice x.1.p x.1.l.length x.1.c, .slice x.2.p x.2.l.length x.2.c] 27 (0, 0)), X.I, Mp (Value.int .i64) Value.bool okI mg6 M, Old w no] := H20
      refine l_of (s_val (v := .map (some mg18)) (wt0 rfl) rfl rfl (x_assign rfl rfl) ?_)
      refine g_nil ?_
      refine g_then ?_
      refine g_seq ?_
      refine g_seq ?_
      refine g_region ?_
      refine l_of (s_val (v := .int .i64 ((n : Int))) (wt0 rfl) rfl rfl (x_move rfl rfl) ?_)
      refine l_of (s_val (v := .int .i64 0) (wt0 rfl) rfl rfl (x_move rfl rfl) ?_)
      refine g_nil ?_
      refine g_then ?_
      refine g_block ?_
      refine g_loop (ι := Nat × BM × BS × (Int → Option Bool)) (fun (i, X2, A2, Bd) => [(1, .int .i64 ((n : Int))), (4, .pointer (some ⟨Y1.b, 0, none⟩)), (5, .map (some mg6)), (8, .pointer (some ⟨g12, 0, none⟩)), (9, .map (some mg18)), (20, .slice p nr c), (21, .int .i64 ((nr : Int))), (22, .int .i64 ((r : Int))), (34, .int .i64 ((n : Int))), (35, .int .i64 ((i : Int)))]) (fun (i, X2, A2, Bd) wx => (i ≤ n) ∧ (X2.ok) ∧ (X2.b = Y1.b) ∧ (X2.A = A2) ∧ (PI A A2 i Bd) ∧ S wx [X2.I, Mp (Value.int .i64) Value.bool okI mg6 M, Mp (Value.int .i64) Value.bool okI mg18 Bd, Ob g12 (.cells #[.slice x.1.p x.1.l.length x.1.c, .slice x.2.p x.2.l.length x.2.c] 27 (0, 0)), Old w no]) (fun (i, X2, A2, Bd) => n - i) (0, X, A, (fun _ => none)) ⟨rfl, rfl, rfl, rfl, rfl, rfl, rfl, rfl, rfl, rfl, trivial⟩ ⟨Nat.zero_le _, hok, hbX, hXA, (pi_start hP), (H20.takes [2, 3, 0, 1, 4] (by decide))⟩ ?_
      rintro ⟨i, X2, A2, Bd⟩ wq21 ⟨hi, hok2, hbX2, hXA2, hPI, H22⟩
      replace H22 : S wq21 [X2.I, Mp (Value.int .i64) Value.bool okI mg6 M, Mp (Value.int .i64) Value.bool okI mg18 Bd, Ob g12 (.cells #[.slice x.1.p x.1.l.length x.1.c, .slice x.2.p x.2.l.length x.2.c] 27 (0, 0)), Old w no] := H22
      refine g_weak [(1, .int .i64 ((n : Int))), (4, .pointer (some ⟨Y1.b, 0, none⟩)), (5, .map (some mg6)), (8, .pointer (some ⟨g12, 0, none⟩)), (9, .map (some mg18)), (20, .slice p nr c), (21, .int .i64 ((nr : Int))), (22, .int .i64 ((r : Int))), (34, .int .i64 ((n : Int))), (35, .int .i64 ((i : Int)))] ⟨rfl, rfl, rfl, rfl, rfl, rfl, rfl, rfl, rfl, rfl, trivial⟩ ?_
      refine g_seq ?_
      refine g_region ?_
      refine l_of (s_val (v := .bool (decide (((i : Int) : Int) < (n : Int)))) (wt0 rfl) rfl rfl (x_bin rfl rfl rfl b_lss) ?_)
      refine g_nil ?_
      refine g_then ?_
      refine g_seq ?_
      by_cases hb23 : ((i : Int) : Int) < (n : Int)
      · skip
        obtain ⟨y, hy⟩ : ∃ y, x.1.l[i]? = some y := ⟨_, List.getElem?_eq_getElem (by omega)⟩
        have hok_y := hx2.o1 y (List.mem_of_getElem? hy)
        refine g_cond_t rfl (decide_eq_true hb23) ?_
        refine g_skip ?_
        refine g_then ?_
        refine g_seq ?_
        refine g_block ?_
        refine g_seq ?_
        refine g_region ?_
        refine l_of (s_val (v := .int .i64 ((i : Int))) (wt0 rfl) rfl rfl (x_move rfl rfl) ?_)
        refine l_of (s_val (v := .int .i64 ((i : Int))) (wt0 rfl) rfl rfl (x_assign rfl rfl) ?_)
        refine g_nil ?_
        refine g_then ?_
        refine g_seq ?_
        refine g_region ?_
        refine l_of (s_val (v := .pointer (some ⟨g12, 0, none⟩)) (wt0 rfl) rfl rfl (x_fieldAddr rfl rfl fo27_0 rfl) ?_)
        refine l_of (s_val (v := .slice x.1.p x.1.l.length x.1.c) (wt0 rfl) rfl rfl (x_load1 H22 3 rfl rfl Try.underlying24 rfl rfl rfl) ?_)
        refine l_of (s_val (v := .int .i64 ((i : Int))) (wt0 rfl) rfl rfl (x_move rfl rfl) ?_)
        refine l_of (s_val (v := .pointer ((x.1.p).map fun q => q.add (i * 1))) (wt0 rfl) rfl rfl (x_idxR i (H22.oldReads (k := 4) rfl hx2.r1) rfl rfl rfl Try.underlying24 sz3 (by omega)) ?_)
        refine l_of (s_val (v := .int .i64 y) (wt0 rfl) rfl rfl (x_loadR1 i (H22.oldReads (k := 4) rfl hx2.r1) (by omega) rfl rfl Try.underlying3 rfl (zV_at hy)) ?_)
        refine l_of (s_val (v := .int .i64 y) (wt0 rfl) rfl rfl (x_assign rfl rfl) ?_)
        refine g_nil ?_
        refine g_then ?_
        refine g_seq ?_
        refine g_region ?_
        refine l_of (s_val (v := .string (⟨#[114, 105, 103, 104, 116]⟩)) (wt0 rfl) rfl rfl (x_assign rfl rfl) ?_)
        refine g_nil ?_
        refine g_then ?_
        refine g_seq ?_
        refine g_seq ?_
        refine g_region ?_
        refine l_of (s_val (v := .int .i64 ((i : Int))) (wt0 rfl) rfl rfl (x_move rfl rfl) ?_)
        refine l_of (s_val (v := .pointer (some ⟨g12, 1, none⟩)) (wt0 rfl) rfl rfl (x_fieldAddr rfl rfl fo27_1 rfl) ?_)
        refine l_of (s_val (v := .slice x.2.p x.2.l.length x.2.c) (wt0 rfl) rfl rfl (x_load1 H22 3 rfl rfl Try.underlying25 rfl rfl rfl) ?_)
        refine l_of (s_val (v := .int .i64 ((x.2.l.length : Int))) (wt0 rfl) rfl rfl (x_lenl rfl rfl Try.underlying25) ?_)
        refine l_of (s_val (v := .bool (decide (((i : Int) : Int) < (x.2.l.length : Int)))) (wt0 rfl) rfl rfl (x_bin rfl rfl rfl b_lss) ?_)
        refine l_of (s_val (v := .bool (decide (((i : Int) : Int) < (x.2.l.length : Int)))) (wt0 rfl) rfl rfl (x_move rfl rfl) ?_)
        by_cases hb24 : ((i : Int) : Int) < (x.2.l.length : Int)
        · skip
          obtain ⟨z, hz⟩ : ∃ z, x.2.l[i]? = some z := ⟨_, List.getElem?_eq_getElem (by omega)⟩
          refine l_of (s_val (v := .pointer (some ⟨g12, 1, none⟩)) (wt1 rfl rfl rfl rfl (decide_eq_true hb24)) rfl rfl (x_fieldAddr rfl rfl fo27_1 rfl) ?_)
          refine l_of (s_val (v := .slice x.2.p x.2.l.length x.2.c) (wt1 rfl rfl rfl rfl (decide_eq_true hb24)) rfl rfl (x_load1 H22 3 rfl rfl Try.underlying25 rfl rfl rfl) ?_)
          refine l_of (s_val (v := .int .i64 ((i : Int))) (wt1 rfl rfl rfl rfl (decide_eq_true hb24)) rfl rfl (x_move rfl rfl) ?_)
          refine l_of (s_val (v := .pointer ((x.2.p).map fun q => q.add (i * 1))) (wt1 rfl rfl rfl rfl (decide_eq_true hb24)) rfl rfl (x_idxR i (H22.oldReads (k := 4) rfl hx2.r2) rfl rfl rfl Try.underlying25 sz4 (by omega)) ?_)
          refine l_of (s_val (v := .bool z) (wt1 rfl rfl rfl rfl (decide_eq_true hb24)) rfl rfl (x_loadR1 i (H22.oldReads (k := 4) rfl hx2.r2) (by omega) rfl rfl Try.underlying4 rfl (bV_at hz)) ?_)
          refine l_of (s_val (v := .bool z) (wt0 rfl) rfl rfl (x_pick_t rfl rfl (decide_eq_true hb24) rfl) ?_)
          refine g_nil ?_
          refine g_then ?_
          refine g_weak [(1, .int .i64 ((n : Int))), (4, .pointer (some ⟨Y1.b, 0, none⟩)), (5, .map (some mg6)), (8, .pointer (some ⟨g12, 0, none⟩)), (9, .map (some mg18)), (10, .int .i64 ((i : Int))), (11, .int .i64 y), (12, .string (⟨#[114, 105, 103, 104, 116]⟩)), (20, .slice p nr c), (21, .int .i64 ((nr : Int))), (22, .int .i64 ((r : Int))), (34, .int .i64 ((n : Int))), (35, .int .i64 ((i : Int))), (54, .bool z)] ⟨rfl, rfl, rfl, rfl, rfl, rfl, rfl, rfl, rfl, rfl, rfl, rfl, rfl, rfl, trivial⟩ ?_
          rcases Bool.eq_false_or_eq_true (z) with hb25 | hb25
          · skip
            refine g_cond_t rfl hb25 ?_
            refine g_seq ?_
            refine g_region ?_
            refine l_of (s_val (v := .string (⟨#[119, 114, 111, 110, 103]⟩)) (wt0 rfl) rfl rfl (x_assign rfl rfl) ?_)
            refine g_nil ?_
            refine g_then ?_
            refine g_region ?_
            refine l_of (s_val (v := .map (some mg18)) (wt0 rfl) rfl rfl (x_move rfl rfl) ?_)
            refine l_of (s_val (v := .int .i64 y) (wt0 rfl) rfl rfl (x_move rfl rfl) ?_)
            refine l_of (s_mapUpdate (x := y) (a := true) (intTy Try.underlying29 Try.underlying3) H22 2 (wt0 rfl) rfl rfl rfl rfl rfl rfl (hok_y) ?_)
            intro wq26 H27
            replace H27 : S wq26 [X2.I, Mp (Value.int .i64) Value.bool okI mg6 M, Mp (Value.int .i64) Value.bool okI mg18 (upM Bd y true), Ob g12 (.cells #[.slice x.1.p x.1.l.length x.1.c, .slice x.2.p x.2.l.length x.2.c] 27 (0, 0)), Old w no] := H27
            refine g_nil ?_
            refine g_then ?_
            refine g_seq ?_
            refine g_region ?_
            refine l_of (s_val (v := .pointer (some ⟨Y1.b, 0, none⟩)) (wt0 rfl) rfl rfl (x_move rfl rfl) ?_)
            refine l_of (s_val (v := .int .i64 y) (wt0 rfl) rfl rfl (x_move rfl rfl) ?_)
            refine l_of (s_val (v := .int .i64 ((i : Int))) (wt0 rfl) rfl rfl (x_move rfl rfl) ?_)
            refine l_of (s_val (v := .int .i64 (5 * (i : Int))) (wt0 rfl) rfl rfl (x_bin rfl rfl rfl (b_mul (w64 (by omega)))) ?_)
            refine l_of (s_val (v := .agg #[.int .i64 3, .int .i64 (5 * (i : Int)), .int .i64 5]) (wt0 rfl) rfl rfl (x_build (vs := [.int .i64 3, .int .i64 (5 * (i : Int)), .int .i64 5]) rfl rfl (cells := #[.int .i64 3, .int .i64 (5 * (i : Int)), .int .i64 5]) (by kernel_rfl)) ?_)
            refine l_of (s_val (v := .string (⟨#[119, 114, 111, 110, 103]⟩)) (wt0 rfl) rfl rfl (x_move rfl rfl) ?_)
            refine l_of (s_call (wt0 rfl) (x_call' rfl rfl cl13) (sent_g (A' := (sentA A2 y 3 (5 * (i : Int)) 5 (⟨#[119, 114, 111, 110, 103]⟩ : ByteArray))) hok2 hbX2 hXA2 hok_y (ok_small (by decide)) rfl rfl _ (H27.takes [0] (by decide))) ?_)
            rintro _ wq32 ⟨Y28, hYb29, hYo30, hYA31, rfl, H33⟩
            replace H33 : S wq32 [Y28.I, Mp (Value.int .i64) Value.bool okI mg6 M, Mp (Value.int .i64) Value.bool okI mg18 (upM Bd y true), Ob g12 (.cells #[.slice x.1.p x.1.l.length x.1.c, .slice x.2.p x.2.l.length x.2.c] 27 (0, 0)), Old w no] := H27.absorbI (new := [Y28.I]) [0] H33
            refine b_ret rfl rfl ?_
            refine l_of (s_val (v := .bool (!decide (((sentE A2 y 3 (5 * (i : Int)) 5 (⟨#[119, 114, 111, 110, 103]⟩ : ByteArray)) : Int) = 0))) (wt0 rfl) rfl rfl (x_bin rfl rfl rfl b_neq) ?_)
            refine g_nil ?_
            refine g_then ?_
            refine g_weak [(1, .int .i64 ((n : Int))), (4, .pointer (some ⟨Y1.b, 0, none⟩)), (5, .map (some mg6)), (8, .pointer (some ⟨g12, 0, none⟩)), (9, .map (some mg18)), (20, .slice p nr c), (21, .int .i64 ((nr : Int))), (22, .int .i64 ((r : Int))), (34, .int .i64 ((n : Int))), (35, .int .i64 ((i : Int))), (64, .bool (!decide (((sentE A2 y 3 (5 * (i : Int)) 5 (⟨#[119, 114, 111, 110, 103]⟩ : ByteArray)) : Int) = 0)))] ⟨rfl, rfl, rfl, rfl, rfl, rfl, rfl, rfl, rfl, rfl, rfl, trivial⟩ ?_
            by_cases hb34 : ((sentE A2 y 3 (5 * (i : Int)) 5 (⟨#[119, 114, 111, 110, 103]⟩ : ByteArray)) : Int) = 0
            · skip
              refine g_cond_f rfl (nf hb34) ?_
              refine g_skip ?_
              refine g_in ?_
              refine g_then ?_
              refine g_region ?_
              refine l_of (s_val (v := .int .i64 (((i + 1 : Nat) : Int))) (wt0 rfl) rfl rfl (x_bin rfl rfl rfl (b_add (by rw [w64 (by omega)]; omega))) ?_)
              refine l_of (s_val (v := .int .i64 (((i + 1 : Nat) : Int))) (wt0 rfl) rfl rfl (x_move rfl rfl) ?_)
              refine g_nil ?_
              refine g_then ?_
              refine g_round (i := (i, X2, A2, Bd)) ((i + 1), Y28, (sentA A2 y 3 (5 * (i : Int)) 5 (⟨#[119, 114, 111, 110, 103]⟩ : ByteArray)), (upM Bd y true)) ?_ ?_ ?_
              · exact ⟨rfl, rfl, rfl, rfl, rfl, rfl, rfl, rfl, rfl, rfl, trivial⟩
              · exact ⟨by omega, hYo30, hYb29, hYA31, (pi_wrong hPI hb34), (H33.takes [0, 1, 2, 3, 4] (by decide))⟩
              · (try dsimp only); omega
            · skip
              refine g_cond_t rfl (nt hb34) ?_
              refine g_seq ?_
              refine g_region ?_
              refine l_of (s_val (v := .pointer (some ⟨Y1.b, 0, none⟩)) (wt0 rfl) rfl rfl (x_move rfl rfl) ?_)
              refine l_of (s_val (v := .map (some mg6)) (wt0 rfl) rfl rfl (x_move rfl rfl) ?_)
              refine l_of (s_val (v := .pointer (some ⟨Y1.b, 0, none⟩)) (wt0 rfl) rfl rfl (x_assign rfl rfl) ?_)
              refine l_of (s_val (v := .map (some mg6)) (wt0 rfl) rfl rfl (x_assign rfl rfl) ?_)
              refine l_of (s_val (v := .bool false) (wt0 rfl) rfl rfl (x_assign rfl rfl) ?_)
              refine g_nil ?_
              refine g_then ?_
              refine g_ret ?_
              refine g_in_ret ?_
              refine g_then_ret ?_
              refine g_then_ret ?_
              refine g_in_ret ?_
              refine g_then_ret ?_
              refine g_in_ret ?_
              refine g_then_ret ?_
              refine g_then_ret ?_
              refine g_in_ret ?_
              refine g_then_ret ?_
              refine fin_ret [.tmp 4, .tmp 5, .tmp 6] [.pointer (some ⟨Y1.b, 0, none⟩), .map (some mg6), .bool false] rfl ⟨rfl, rfl, rfl, trivial⟩ ?_
              exact ⟨Y28, mg6, M, false, hYo30, by rw [hYA31]; exact (fun q hq => pl_ban hP hPI q (by rwa [sentA_sc.2.1] at hq)), fun h => (by cases h), (by rw [hYb29]; rfl), H33.takes [0, 1, 4] (by decide)⟩
          · skip
            refine g_cond_f rfl hb25 ?_
            refine g_skip ?_
            refine g_then ?_
            refine g_seq ?_
            refine g_region ?_
            refine l_of (s_val (v := .pointer (some ⟨Y1.b, 0, none⟩)) (wt0 rfl) rfl rfl (x_move rfl rfl) ?_)
            refine l_of (s_val (v := .int .i64 y) (wt0 rfl) rfl rfl (x_move rfl rfl) ?_)
            refine l_of (s_val (v := .int .i64 ((i : Int))) (wt0 rfl) rfl rfl (x_move rfl rfl) ?_)
            refine l_of (s_val (v := .int .i64 (5 * (i : Int))) (wt0 rfl) rfl rfl (x_bin rfl rfl rfl (b_mul (w64 (by omega)))) ?_)
            refine l_of (s_val (v := .agg #[.int .i64 3, .int .i64 (5 * (i : Int)), .int .i64 5]) (wt0 rfl) rfl rfl (x_build (vs := [.int .i64 3, .int .i64 (5 * (i : Int)), .int .i64 5]) rfl rfl (cells := #[.int .i64 3, .int .i64 (5 * (i : Int)), .int .i64 5]) (by kernel_rfl)) ?_)
            refine l_of (s_val (v := .string (⟨#[114, 105, 103, 104, 116]⟩)) (wt0 rfl) rfl rfl (x_move rfl rfl) ?_)
            refine l_of (s_call (wt0 rfl) (x_call' rfl rfl cl13) (sent_g (A' := (sentA A2 y 3 (5 * (i : Int)) 5 (⟨#[114, 105, 103, 104, 116]⟩ : ByteArray))) hok2 hbX2 hXA2 hok_y (ok_small (by decide)) rfl rfl _ (H22.takes [0] (by decide))) ?_)
            rintro _ wq39 ⟨Y35, hYb36, hYo37, hYA38, rfl, H40⟩
            replace H40 : S wq39 [Y35.I, Mp (Value.int .i64) Value.bool okI mg6 M, Mp (Value.int .i64) Value.bool okI mg18 Bd, Ob g12 (.cells #[.slice x.1.p x.1.l.length x.1.c, .slice x.2.p x.2.l.length x.2.c] 27 (0, 0)), Old w no] := H22.absorbI (new := [Y35.I]) [0] H40
            refine b_ret rfl rfl ?_
            refine l_of (s_val (v := .bool (!decide (((sentE A2 y 3 (5 * (i : Int)) 5 (⟨#[114, 105, 103, 104, 116]⟩ : ByteArray)) : Int) = 0))) (wt0 rfl) rfl rfl (x_bin rfl rfl rfl b_neq) ?_)
            refine g_nil ?_
            refine g_then ?_
            by_cases hb41 : ((sentE A2 y 3 (5 * (i : Int)) 5 (⟨#[114, 105, 103, 104, 116]⟩ : ByteArray)) : Int) = 0
            · skip
              refine g_cond_f rfl (nf hb41) ?_
              refine g_skip ?_
              refine g_in ?_
              refine g_then ?_
              refine g_weak [(1, .int .i64 ((n : Int))), (4, .pointer (some ⟨Y1.b, 0, none⟩)), (5, .map (some mg6)), (8, .pointer (some ⟨g12, 0, none⟩)), (9, .map (some mg18)), (20, .slice p nr c), (21, .int .i64 ((nr : Int))), (22, .int .i64 ((r : Int))), (34, .int .i64 ((n : Int))), (35, .int .i64 ((i : Int)))] ⟨rfl, rfl, rfl, rfl, rfl, rfl, rfl, rfl, rfl, rfl, trivial⟩ ?_
              refine g_region ?_
              refine l_of (s_val (v := .int .i64 (((i + 1 : Nat) : Int))) (wt0 rfl) rfl rfl (x_bin rfl rfl rfl (b_add (by rw [w64 (by omega)]; omega))) ?_)
              refine l_of (s_val (v := .int .i64 (((i + 1 : Nat) : Int))) (wt0 rfl) rfl rfl (x_move rfl rfl) ?_)
              refine g_nil ?_
              refine g_then ?_
              refine g_round (i := (i, X2, A2, Bd)) ((i + 1), Y35, (sentA A2 y 3 (5 * (i : Int)) 5 (⟨#[114, 105, 103, 104, 116]⟩ : ByteArray)), Bd) ?_ ?_ ?_
              · exact ⟨rfl, rfl, rfl, rfl, rfl, rfl, rfl, rfl, rfl, rfl, trivial⟩
              · exact ⟨by omega, hYo37, hYb36, hYA38, (pi_right hPI hb41), (H40.takes [0, 1, 2, 3, 4] (by decide))⟩
              · (try dsimp only); omega
            · skip
              refine g_cond_t rfl (nt hb41) ?_
              refine g_seq ?_
              refine g_region ?_
              refine l_of (s_val (v := .pointer (some ⟨Y1.b, 0, none⟩)) (wt0 rfl) rfl rfl (x_move rfl rfl) ?_)
              refine l_of (s_val (v := .map (some mg6)) (wt0 rfl) rfl rfl (x_move rfl rfl) ?_)
              refine l_of (s_val (v := .pointer (some ⟨Y1.b, 0, none⟩)) (wt0 rfl) rfl rfl (x_assign rfl rfl) ?_)
              refine l_of (s_val (v := .map (some mg6)) (wt0 rfl) rfl rfl (x_assign rfl rfl) ?_)
              refine l_of (s_val (v := .bool false) (wt0 rfl) rfl rfl (x_assign rfl rfl) ?_)
              refine g_nil ?_
              refine g_then ?_
              refine g_weak [(4, .pointer (some ⟨Y1.b, 0, none⟩)), (5, .map (some mg6)), (6, .bool false)] ⟨rfl, rfl, rfl, trivial⟩ ?_
              refine g_ret ?_
              refine g_in_ret ?_
              refine g_then_ret ?_
              refine g_then_ret ?_
              refine g_in_ret ?_
              refine g_then_ret ?_
              refine g_in_ret ?_
              refine g_then_ret ?_
              refine g_then_ret ?_
              refine g_in_ret ?_
              refine g_then_ret ?_
              refine fin_ret [.tmp 4, .tmp 5, .tmp 6] [.pointer (some ⟨Y1.b, 0, none⟩), .map (some mg6), .bool false] rfl ⟨rfl, rfl, rfl, trivial⟩ ?_
              exact ⟨Y35, mg6, M, false, hYo37, by rw [hYA38]; exact (fun q hq => pl_ban hP hPI q (by rwa [sentA_sc.2.1] at hq)), fun h => (by cases h), (by rw [hYb36]; rfl), H40.takes [0, 1, 4] (by decide)⟩
        · skip
          refine l_of (s_not (wn1 rfl rfl rfl rfl (decide_eq_false hb24)) rfl rfl ?_)
          refine l_of (s_not (wn1 rfl rfl rfl rfl (decide_eq_false hb24)) rfl rfl ?_)
          refine l_of (s_not (wn1 rfl rfl rfl rfl (decide_eq_false hb24)) rfl rfl ?_)
          refine l_of (s_not (wn1 rfl rfl rfl rfl (decide_eq_false hb24)) rfl rfl ?_)
          refine l_of (s_not (wn1 rfl rfl rfl rfl (decide_eq_false hb24)) rfl rfl ?_)
          refine l_of (s_val (v := .bool false) (wt0 rfl) rfl rfl (x_pick_f rfl rfl (decide_eq_false hb24) rfl) ?_)
          refine g_nil ?_
          refine g_then ?_
          refine g_weak [(1, .int .i64 ((n : Int))), (4, .pointer (some ⟨Y1.b, 0, none⟩)), (5, .map (some mg6)), (8, .pointer (some ⟨g12, 0, none⟩)), (9, .map (some mg18)), (10, .int .i64 ((i : Int))), (11, .int .i64 y), (12, .string (⟨#[114, 105, 103, 104, 116]⟩)), (20, .slice p nr c), (21, .int .i64 ((nr : Int))), (22, .int .i64 ((r : Int))), (34, .int .i64 ((n : Int))), (35, .int .i64 ((i : Int))), (54, .bool false)] ⟨rfl, rfl, rfl, rfl, rfl, rfl, rfl, rfl, rfl, rfl, rfl, rfl, rfl, rfl, trivial⟩ ?_
          refine g_cond_f rfl rfl ?_
          refine g_skip ?_
          refine g_then ?_
          refine g_seq ?_
          refine g_region ?_
          refine l_of (s_val (v := .pointer (some ⟨Y1.b, 0, none⟩)) (wt0 rfl) rfl rfl (x_move rfl rfl) ?_)
          refine l_of (s_val (v := .int .i64 y) (wt0 rfl) rfl rfl (x_move rfl rfl) ?_)
          refine l_of (s_val (v := .int .i64 ((i : Int))) (wt0 rfl) rfl rfl (x_move rfl rfl) ?_)
          refine l_of (s_val (v := .int .i64 (5 * (i : Int))) (wt0 rfl) rfl rfl (x_bin rfl rfl rfl (b_mul (w64 (by omega)))) ?_)
          refine l_of (s_val (v := .agg #[.int .i64 3, .int .i64 (5 * (i : Int)), .int .i64 5]) (wt0 rfl) rfl rfl (x_build (vs := [.int .i64 3, .int .i64 (5 * (i : Int)), .int .i64 5]) rfl rfl (cells := #[.int .i64 3, .int .i64 (5 * (i : Int)), .int .i64 5]) (by kernel_rfl)) ?_)
          refine l_of (s_val (v := .string (⟨#[114, 105, 103, 104, 116]⟩)) (wt0 rfl) rfl rfl (x_move rfl rfl) ?_)
          refine l_of (s_call (wt0 rfl) (x_call' rfl rfl cl13) (sent_g (A' := (sentA A2 y 3 (5 * (i : Int)) 5 (⟨#[114, 105, 103, 104, 116]⟩ : ByteArray))) hok2 hbX2 hXA2 hok_y (ok_small (by decide)) rfl rfl _ (H22.takes [0] (by decide))) ?_)
          rintro _ wq46 ⟨Y42, hYb43, hYo44, hYA45, rfl, H47⟩
          replace H47 : S wq46 [Y42.I, Mp (Value.int .i64) Value.bool okI mg6 M, Mp (Value.int .i64) Value.bool okI mg18 Bd, Ob g12 (.cells #[.slice x.1.p x.1.l.length x.1.c, .slice x.2.p x.2.l.length x.2.c] 27 (0, 0)), Old w no] := H22.absorbI (new := [Y42.I]) [0] H47
          refine b_ret rfl rfl ?_
          refine l_of (s_val (v := .bool (!decide (((sentE A2 y 3 (5 * (i : Int)) 5 (⟨#[114, 105, 103, 104, 116]⟩ : ByteArray)) : Int) = 0))) (wt0 rfl) rfl rfl (x_bin rfl rfl rfl b_neq) ?_)
          refine g_nil ?_
          refine g_then ?_
          by_cases hb48 : ((sentE A2 y 3 (5 * (i : Int)) 5 (⟨#[114, 105, 103, 104, 116]⟩ : ByteArray)) : Int) = 0
          · skip
            refine g_cond_f rfl (nf hb48) ?_
            refine g_skip ?_
            refine g_in ?_
            refine g_then ?_
            refine g_weak [(1, .int .i64 ((n : Int))), (4, .pointer (some ⟨Y1.b, 0, none⟩)), (5, .map (some mg6)), (8, .pointer (some ⟨g12, 0, none⟩)), (9, .map (some mg18)), (20, .slice p nr c), (21, .int .i64 ((nr : Int))), (22, .int .i64 ((r : Int))), (34, .int .i64 ((n : Int))), (35, .int .i64 ((i : Int)))] ⟨rfl, rfl, rfl, rfl, rfl, rfl, rfl, rfl, rfl, rfl, trivial⟩ ?_
            refine g_region ?_
            refine l_of (s_val (v := .int .i64 (((i + 1 : Nat) : Int))) (wt0 rfl) rfl rfl (x_bin rfl rfl rfl (b_add (by rw [w64 (by omega)]; omega))) ?_)
            refine l_of (s_val (v := .int .i64 (((i + 1 : Nat) : Int))) (wt0 rfl) rfl rfl (x_move rfl rfl) ?_)
            refine g_nil ?_
            refine g_then ?_
            refine g_round (i := (i, X2, A2, Bd)) ((i + 1), Y42, (sentA A2 y 3 (5 * (i : Int)) 5 (⟨#[114, 105, 103, 104, 116]⟩ : ByteArray)), Bd) ?_ ?_ ?_
            · exact ⟨rfl, rfl, rfl, rfl, rfl, rfl, rfl, rfl, rfl, rfl, trivial⟩
            · exact ⟨by omega, hYo44, hYb43, hYA45, (pi_right hPI hb48), (H47.takes [0, 1, 2, 3, 4] (by decide))⟩
            · (try dsimp only); omega
          · skip
            refine g_cond_t rfl (nt hb48) ?_
            refine g_seq ?_
            refine g_region ?_
            refine l_of (s_val (v := .pointer (some ⟨Y1.b, 0, none⟩)) (wt0 rfl) rfl rfl (x_move rfl rfl) ?_)
            refine l_of (s_val (v := .map (some mg6)) (wt0 rfl) rfl rfl (x_move rfl rfl) ?_)
            refine l_of (s_val (v := .pointer (some ⟨Y1.b, 0, none⟩)) (wt0 rfl) rfl rfl (x_assign rfl rfl) ?_)
            refine l_of (s_val (v := .map (some mg6)) (wt0 rfl) rfl rfl (x_assign rfl rfl) ?_)
            refine l_of (s_val (v := .bool false) (wt0 rfl) rfl rfl (x_assign rfl rfl) ?_)
            refine g_nil ?_
            refine g_then ?_
            refine g_weak [(4, .pointer (some ⟨Y1.b, 0, none⟩)), (5, .map (some mg6)), (6, .bool false)] ⟨rfl, rfl, rfl, trivial⟩ ?_
            refine g_ret ?_
            refine g_in_ret ?_
            refine g_then_ret ?_
            refine g_then_ret ?_
            refine g_in_ret ?_
            refine g_then_ret ?_
            refine g_in_ret ?_
            refine g_then_ret ?_
            refine g_then_ret ?_
            refine g_in_ret ?_
            refine g_then_ret ?_
            refine fin_ret [.tmp 4, .tmp 5, .tmp 6] [.pointer (some ⟨Y1.b, 0, none⟩), .map (some mg6), .bool false] rfl ⟨rfl, rfl, rfl, trivial⟩ ?_
            exact ⟨Y42, mg6, M, false, hYo44, by rw [hYA45]; exact (fun q hq => pl_ban hP hPI q (by rwa [sentA_sc.2.1] at hq)), fun h => (by cases h), (by rw [hYb43]; rfl), H47.takes [0, 1, 4] (by decide)⟩
      · skip
        have hin : n = i := by omega
        subst hin
        refine g_cond_f rfl (decide_eq_false hb23) ?_
        refine g_exit ?_
        refine g_then_exit ?_
        refine g_then_exit ?_
        refine g_in_hit ?_
        refine g_then ?_
        refine g_seq ?_
        refine g_seq ?_
        refine g_region ?_
        refine l_of (s_val (v := .map (some mg18)) (wt0 rfl) rfl rfl (x_move rfl rfl) ?_)
        refine l_of (s_lenMap H22 2 (wt0 rfl) rfl rfl rfl rfl rfl Try.underlying29 ?_)
        intro nk49 hnk49
        refine l_of (s_val (v := .bool (decide (((nk49 : Int) : Int) = 0))) (wt0 rfl) rfl rfl (x_bin rfl rfl rfl b_eql) ?_)
        refine g_nil ?_
        refine g_then ?_
        by_cases hb50 : ((nk49 : Int) : Int) = 0
        · skip
          have hno := (pi_none hPI hnk49).1 (by omega)
          refine g_cond_t rfl (decide_eq_true hb50) ?_
          refine g_seq ?_
          refine g_region ?_
          refine l_of (s_val (v := .pointer (some ⟨Y1.b, 0, none⟩)) (wt0 rfl) rfl rfl (x_move rfl rfl) ?_)
          refine l_of (s_call (wt0 rfl) (x_call' rfl rfl cl25) (good_g (A' := (goodA A2 3)) hok2 hbX2 hXA2 (ok_small (by decide)) (pi_endE hPI hn0) rfl rfl _ (H22.takes [0] (by decide))) ?_)
          rintro _ wq57 ⟨Y51, p55, c56, hYb52, hYo53, hYA54, rfl, H58⟩
          replace H58 : S wq57 [Rw 3 1 p55 (goodR A2 3).length c56 (zV (goodR A2 3)), Y51.I, Mp (Value.int .i64) Value.bool okI mg6 M, Mp (Value.int .i64) Value.bool okI mg18 Bd, Ob g12 (.cells #[.slice x.1.p x.1.l.length x.1.c, .slice x.2.p x.2.l.length x.2.c] 27 (0, 0)), Old w no] := H22.absorbI (new := [Rw 3 1 p55 (goodR A2 3).length c56 (zV (goodR A2 3)), Y51.I]) [0] H58
          refine b_ret rfl rfl ?_
          refine l_of (s_val (v := .tuple #[.slice p55 (goodR A2 3).length c56, .int .i64 0]) (wt0 rfl) rfl rfl (x_move rfl rfl) ?_)
          refine l_of (s_val (v := .slice p55 (goodR A2 3).length c56) (wt0 rfl) rfl rfl (x_extract rfl rfl rfl) ?_)
          refine l_of (s_val (v := .int .i64 0) (wt0 rfl) rfl rfl (x_extract rfl rfl rfl) ?_)
          refine l_of (s_val (v := .slice p55 (goodR A2 3).length c56) (wt0 rfl) rfl rfl (x_assign rfl rfl) ?_)
          refine l_of (s_val (v := .int .i64 0) (wt0 rfl) rfl rfl (x_assign rfl rfl) ?_)
          refine g_nil ?_
          refine g_then ?_
          refine g_weak [(4, .pointer (some ⟨Y1.b, 0, none⟩)), (5, .map (some mg6)), (14, .int .i64 0)] ⟨rfl, rfl, rfl, trivial⟩ ?_
          refine g_seq ?_
          refine g_region ?_
          refine l_of (s_val (v := .pointer (some ⟨Y1.b, 0, none⟩)) (wt0 rfl) rfl rfl (x_move rfl rfl) ?_)
          refine l_of (s_val (v := .map (some mg6)) (wt0 rfl) rfl rfl (x_move rfl rfl) ?_)
          refine l_of (s_val (v := .int .i64 0) (wt0 rfl) rfl rfl (x_move rfl rfl) ?_)
          refine l_of (s_val (v := .bool (decide ((0 : Int) = 0))) (wt0 rfl) rfl rfl (x_bin rfl rfl rfl b_eql) ?_)
          refine l_of (s_val (v := .pointer (some ⟨Y1.b, 0, none⟩)) (wt0 rfl) rfl rfl (x_assign rfl rfl) ?_)
          refine l_of (s_val (v := .map (some mg6)) (wt0 rfl) rfl rfl (x_assign rfl rfl) ?_)
          refine l_of (s_val (v := .bool (decide ((0 : Int) = 0))) (wt0 rfl) rfl rfl (x_assign rfl rfl) ?_)
          refine g_nil ?_
          refine g_then ?_
          refine g_ret ?_
          refine g_then_ret ?_
          refine g_in_ret ?_
          refine g_then_ret ?_
          refine g_then_ret ?_
          refine g_in_ret ?_
          refine g_then_ret ?_
          refine fin_ret [.tmp 4, .tmp 5, .tmp 6] [.pointer (some ⟨Y1.b, 0, none⟩), .map (some mg6), .bool (decide ((0 : Int) = 0))] rfl ⟨rfl, rfl, rfl, trivial⟩ ?_
          have hG := pl_good hP hPI hn0 hno
          exact ⟨Y51, mg6, M, true, hYo53, fun q hq => by rw [hYA54, hG.1] at hq; exact hq, fun _ => ⟨fun q => by rw [hYA54]; exact hG.1 q, fun q => by rw [hYA54]; exact hG.2 q⟩, (by rw [hYb52]; rfl), H58.takes [1, 2, 5] (by decide)⟩
        · skip
          have hex := ex_spoils hPI hnk49 hb50
          refine g_cond_f rfl (decide_eq_false hb50) ?_
          refine g_skip ?_
          refine g_then ?_
          refine g_seq ?_
          refine g_seq ?_
          refine g_region ?_
          refine l_of (s_val (v := .map (some mg18)) (wt0 rfl) rfl rfl (x_move rfl rfl) ?_)
          refine l_of (s_rangeN (intTy Try.underlying29 Try.underlying3) H22 2 (wt0 rfl) rfl rfl rfl rfl rfl ?_)
          intro rr59 rem60 wq61 hnrem60 hrem60 H62
          replace H62 : S wq61 [X2.I, Mp (Value.int .i64) Value.bool okI mg6 M, MpR (Value.int .i64) Value.bool okI mg18 rr59 Bd rem60 none, Ob g12 (.cells #[.slice x.1.p x.1.l.length x.1.c, .slice x.2.p x.2.l.length x.2.c] 27 (0, 0)), Old w no] := H62
          refine g_nil ?_
          refine g_then ?_
          refine g_block ?_
          refine g_loop (ι := List (Int × Bool) × Option (Int × Bool) × (Int → Option Bool)) (fun (rem, cur, M2) => [(1, .int .i64 ((n : Int))), (4, .pointer (some ⟨Y1.b, 0, none⟩)), (5, .map (some mg6)), (20, .slice p nr c), (21, .int .i64 ((nr : Int))), (22, .int .i64 ((r : Int))), (81, .pointer (some ⟨rr59, 0, none⟩))]) (fun (rem, cur, M2) wx => (∀ z ∈ rem, z ∈ rem60) ∧ (∀ q, (M2 q).getD false = true ↔ (M q).getD false = true ∨ ∃ z ∈ rem60, z ∉ rem ∧ z.1 = q) ∧ S wx [X2.I, Mp (Value.int .i64) Value.bool okI mg6 M2, MpR (Value.int .i64) Value.bool okI mg18 rr59 Bd rem cur, Ob g12 (.cells #[.slice x.1.p x.1.l.length x.1.c, .slice x.2.p x.2.l.length x.2.c] 27 (0, 0)), Old w no]) (fun (rem, cur, M2) => rem.length) (rem60, none, M) ⟨rfl, rfl, rfl, rfl, rfl, rfl, rfl, trivial⟩ ⟨(fun _ h => h), (fun q => ⟨fun h => .inl h, fun h => h.elim id fun ⟨z, h1, h2, _⟩ => absurd h1 h2⟩), (H62.takes [0, 1, 2, 3, 4] (by decide))⟩ ?_
          rintro ⟨rem, cur, M2⟩ wq63 ⟨hrr2, hM2, H64⟩
          replace H64 : S wq63 [X2.I, Mp (Value.int .i64) Value.bool okI mg6 M2, MpR (Value.int .i64) Value.bool okI mg18 rr59 Bd rem cur, Ob g12 (.cells #[.slice x.1.p x.1.l.length x.1.c, .slice x.2.p x.2.l.length x.2.c] 27 (0, 0)), Old w no] := H64
          refine g_weak [(1, .int .i64 ((n : Int))), (4, .pointer (some ⟨Y1.b, 0, none⟩)), (5, .map (some mg6)), (20, .slice p nr c), (21, .int .i64 ((nr : Int))), (22, .int .i64 ((r : Int))), (81, .pointer (some ⟨rr59, 0, none⟩))] ⟨rfl, rfl, rfl, rfl, rfl, rfl, rfl, trivial⟩ ?_
          refine g_seq ?_
          refine g_region ?_
          refine l_of (s_next H64 2 (wt0 rfl) rfl rfl rfl rfl rfl (fun hnil74 => ?_) (fun q65 rem66 wx67 hp68 hok69 hN70 hm71 hl72 Hx73 => ?_))
          · skip
            subst hnil74
            have H75 : S wq63 [X2.I, Mp (Value.int .i64) Value.bool okI mg6 M2, Mp (Value.int .i64) Value.bool okI mg18 Bd, Ob g12 (.cells #[.slice x.1.p x.1.l.length x.1.c, .slice x.2.p x.2.l.length x.2.c] 27 (0, 0)), Old w no] := H64.unR (k0 := 2) rfl
            refine l_of (s_val (v := .bool false) (wt0 rfl) rfl rfl (x_extract rfl rfl rfl) ?_)
            refine g_nil ?_
            refine g_then ?_
            refine g_seq ?_
            refine g_cond_f rfl rfl ?_
            refine g_exit ?_
            refine g_then_exit ?_
            refine g_then_exit ?_
            refine g_in_hit ?_
            refine g_then ?_
            refine g_seq ?_
            refine g_region ?_
            have hsp := spread_all hPI hrem60 hM2
            refine l_of (s_val (v := .pointer (some ⟨Y1.b, 0, none⟩)) (wt0 rfl) rfl rfl (x_move rfl rfl) ?_)
            refine l_of (s_call (wt0 rfl) (x_call' rfl rfl cl16) (fail_g (A' := (failA A2 3)) hok2 hbX2 hXA2 (ok_small (by decide)) (pi_endE hPI hn0) rfl rfl _ (H75.takes [0] (by decide))) ?_)
            rintro _ wq82 ⟨Y76, p80, c81, hYb77, hYo78, hYA79, rfl, H83⟩
            replace H83 : S wq82 [Rw 3 1 p80 (failR A2 3).length c81 (zV (failR A2 3)), Y76.I, Mp (Value.int .i64) Value.bool okI mg6 M2, Mp (Value.int .i64) Value.bool okI mg18 Bd, Ob g12 (.cells #[.slice x.1.p x.1.l.length x.1.c, .slice x.2.p x.2.l.length x.2.c] 27 (0, 0)), Old w no] := H75.absorbI (new := [Rw 3 1 p80 (failR A2 3).length c81 (zV (failR A2 3)), Y76.I]) [0] H83
            refine b_ret rfl rfl ?_
            refine l_of (s_val (v := .tuple #[.slice p80 (failR A2 3).length c81, .int .i64 0]) (wt0 rfl) rfl rfl (x_move rfl rfl) ?_)
            refine l_of (s_val (v := .slice p80 (failR A2 3).length c81) (wt0 rfl) rfl rfl (x_extract rfl rfl rfl) ?_)
            refine l_of (s_val (v := .int .i64 0) (wt0 rfl) rfl rfl (x_extract rfl rfl rfl) ?_)
            refine l_of (s_val (v := .slice p80 (failR A2 3).length c81) (wt0 rfl) rfl rfl (x_assign rfl rfl) ?_)
            refine l_of (s_val (v := .int .i64 0) (wt0 rfl) rfl rfl (x_assign rfl rfl) ?_)
            refine g_nil ?_
            refine g_then ?_
            refine g_seq ?_
            refine g_region ?_
            refine l_of (s_val (v := .int .i64 0) (wt0 rfl) rfl rfl (x_move rfl rfl) ?_)
            refine l_of (s_val (v := .bool (!decide ((0 : Int) = 0))) (wt0 rfl) rfl rfl (x_bin rfl rfl rfl b_neq) ?_)
            refine g_nil ?_
            refine g_then ?_
            refine g_cond_f rfl (nf rfl) ?_
            refine g_skip ?_
            refine g_in ?_
            refine g_then ?_
            refine g_weak [(1, .int .i64 ((n : Int))), (4, .pointer (some ⟨Y1.b, 0, none⟩)), (5, .map (some mg6)), (20, .slice p nr c), (21, .int .i64 ((nr : Int))), (22, .int .i64 ((r : Int)))] ⟨rfl, rfl, rfl, rfl, rfl, rfl, trivial⟩ ?_
            refine g_region ?_
            refine l_of (s_val (v := .int .i64 (((r + 1 : Nat) : Int))) (wt0 rfl) rfl rfl (x_bin rfl rfl rfl (b_add (by rw [w64 (by omega)]; omega))) ?_)
            refine l_of (s_val (v := .int .i64 (((r + 1 : Nat) : Int))) (wt0 rfl) rfl rfl (x_move rfl rfl) ?_)
            refine g_nil ?_
            refine g_then ?_
            refine g_round (i := (r, X, A, T, M)) ((r + 1), Y76, (failA A2 3), (T ++ [A2.nw 3]), M2) ?_ ?_ ?_
            · exact ⟨rfl, rfl, rfl, rfl, rfl, rfl, trivial⟩
            · exact ⟨by omega, hYo78, hYb77, hYA79, (fun h10 => pl_fail hP hPI hn0 hex (by omega) hsp), (by rw [List.length_append, List.length_singleton, hT]), (pl_failB hP hPI hn0 hex hsp), (H83.takes [1, 2, 5] (by decide))⟩
            · (try dsimp only); omega
          · skip
            have H84 : S wx67 [X2.I, Mp (Value.int .i64) Value.bool okI mg6 M2, MpR (Value.int .i64) Value.bool okI mg18 rr59 Bd rem66 (some q65), Ob g12 (.cells #[.slice x.1.p x.1.l.length x.1.c, .slice x.2.p x.2.l.length x.2.c] 27 (0, 0)), Old w no] := Hx73
            refine l_of (s_val (v := .bool true) (wt0 rfl) rfl rfl (x_extract rfl rfl rfl) ?_)
            refine g_nil ?_
            refine g_then ?_
            refine g_seq ?_
            refine g_cond_t rfl rfl ?_
            refine g_skip ?_
            refine g_then ?_
            refine g_block ?_
            refine g_seq ?_
            refine g_region ?_
            refine l_of (s_val (v := .tuple #[.int .i64 (q65.1), .bool q65.2]) (wt0 rfl) rfl rfl (x_entry (k := 0) (t := 0) (e0 := 0) H84 2 rfl rfl rfl) ?_)
            refine l_of (s_val (v := .int .i64 (q65.1)) (wt0 rfl) rfl rfl (x_extract rfl rfl rfl) ?_)
            refine l_of (s_val (v := .int .i64 (q65.1)) (wt0 rfl) rfl rfl (x_assign rfl rfl) ?_)
            refine g_nil ?_
            refine g_then ?_
            refine g_region ?_
            refine l_of (s_val (v := .map (some mg6)) (wt0 rfl) rfl rfl (x_move rfl rfl) ?_)
            refine l_of (s_val (v := .int .i64 (q65.1)) (wt0 rfl) rfl rfl (x_move rfl rfl) ?_)
            refine l_of (s_mapUpdate (x := q65.1) (a := true) (intTy Try.underlying29 Try.underlying3) H84 1 (wt0 rfl) rfl rfl rfl rfl rfl rfl (hok69) ?_)
            intro wq85 H86
            replace H86 : S wq85 [X2.I, Mp (Value.int .i64) Value.bool okI mg6 (upM M2 q65.1 true), MpR (Value.int .i64) Value.bool okI mg18 rr59 Bd rem66 (some q65), Ob g12 (.cells #[.slice x.1.p x.1.l.length x.1.c, .slice x.2.p x.2.l.length x.2.c] 27 (0, 0)), Old w no] := H86
            refine g_nil ?_
            refine g_in ?_
            refine g_then ?_
            refine g_round (i := (rem, cur, M2)) (rem66, (some q65), (upM M2 q65.1 true)) ?_ ?_ ?_
            · exact ⟨rfl, rfl, rfl, rfl, rfl, rfl, rfl, trivial⟩
            · exact ⟨(fun z hz => hrr2 z ((hm71 z).1 hz).1), (spread_next (hrr2 _ hp68) hm71 hM2), (H86.takes [0, 1, 2, 3, 4] (by decide))⟩
            · exact hl72
  · skip
    refine g_cond_f rfl (decide_eq_false hb11) ?_
    refine g_exit ?_
    refine g_then_exit ?_
    refine g_then_exit ?_
    refine g_in_hit ?_
    refine g_then ?_
    refine g_seq ?_
    refine g_region ?_
    refine l_of (s_val (v := .pointer (some ⟨Y1.b, 0, none⟩)) (wt0 rfl) rfl rfl (x_move rfl rfl) ?_)
    refine l_of (s_val (v := .map (some mg6)) (wt0 rfl) rfl rfl (x_move rfl rfl) ?_)
    refine l_of (s_val (v := .pointer (some ⟨Y1.b, 0, none⟩)) (wt0 rfl) rfl rfl (x_assign rfl rfl) ?_)
    refine l_of (s_val (v := .map (some mg6)) (wt0 rfl) rfl rfl (x_assign rfl rfl) ?_)
    refine l_of (s_val (v := .bool false) (wt0 rfl) rfl rfl (x_assign rfl rfl) ?_)
    refine g_nil ?_
    refine g_then ?_
    refine g_ret ?_
    refine fin_ret [.tmp 4, .tmp 5, .tmp 6] [.pointer (some ⟨Y1.b, 0, none⟩), .map (some mg6), .bool false] rfl ⟨rfl, rfl, rfl, trivial⟩ ?_
    exact ⟨X, mg6, M, false, hok, by rw [hXA]; exact hbm, fun h => (by cases h), (by rw [hbX]; rfl), H10.takes [0, 1, 2] (by decide)⟩
theorem RrOk.later {w w' : World} {x : RR} (h : RrOk w x) (hS : S w' [Old w no]) : RrOk w' x :=
  ⟨h.n1, h.n2, h.o1, hS.oldReads (k := 0) rfl h.r1, hS.oldReads (k := 0) rfl h.r2⟩
set_option maxRecDepth 20000 in
set_option maxHeartbeats 4000000 in
set_option maxRecDepth 20000 in
set_option maxHeartbeats 4000000 in
theorem never_law (p : Option Addr) (nr c : Nat) (l : List RR) (k : Int) (hnr : nr = l.length) (w : World) (hr : Reads w p nr c 2 (rrV l)) (hrr : ∀ x ∈ l, RrOk w x) (hl9 : l.length ≤ 9223372036854775807) : Calls Try.prog 3 #[.slice p nr c, .int .i64 k] w fun e w' => e = .returned (.bool true) ∧ S w' [Old w no] := by
  have H0 := S.old w
  refine enter 73 Try.func3 rfl rfl rfl ?_
  refine g_weak [(0, .slice p nr c), (1, .int .i64 k)] ⟨rfl, rfl, trivial⟩ ?_
  refine g_seq ?_
  refine g_region ?_
  refine l_of (s_val (v := .bool false) (wt0 rfl) rfl rfl (x_assign rfl rfl) ?_)
  refine g_nil ?_
  refine g_then ?_
  refine g_seq ?_
  refine g_seq ?_
  refine g_region ?_
  refine l_of (s_val (v := .slice p nr c) (wt0 rfl) rfl rfl (x_move rfl rfl) ?_)
  refine l_of (s_val (v := .int .i64 ((nr : Int))) (wt0 rfl) rfl rfl (x_lenl rfl rfl Try.underlying22) ?_)
  refine l_of (s_val (v := .bool (decide ((11 : Int) < (nr : Int)))) (wt0 rfl) rfl rfl (x_bin rfl rfl rfl b_gtr) ?_)
  refine l_of (s_val (v := .bool (decide ((11 : Int) < (nr : Int)))) (wt0 rfl) rfl rfl (x_move rfl rfl) ?_)
  by_cases hb1 : (11 : Int) < (nr : Int)
  · skip
    refine l_of (s_not (wn1 rfl rfl rfl rfl (decide_eq_true hb1)) rfl rfl ?_)
    refine l_of (s_not (wn1 rfl rfl rfl rfl (decide_eq_true hb1)) rfl rfl ?_)
    refine l_of (s_val (v := .bool true) (wt0 rfl) rfl rfl (x_pick_t rfl rfl (decide_eq_true hb1) rfl) ?_)
    refine l_of (s_val (v := .bool true) (wt0 rfl) rfl rfl (x_move rfl rfl) ?_)
    refine l_of (s_not (wn1 rfl rfl rfl rfl rfl) rfl rfl ?_)
    refine l_of (s_not (wn1 rfl rfl rfl rfl rfl) rfl rfl ?_)
    refine l_of (s_val (v := .bool true) (wt0 rfl) rfl rfl (x_pick_t rfl rfl rfl rfl) ?_)
    refine g_nil ?_
    refine g_then ?_
    refine g_cond_t rfl rfl ?_
    refine g_seq ?_
    refine g_region ?_
    refine l_of (s_call (wt0 rfl) (x_call' rfl rfl cl8) (awake_s _) ?_)
    rintro _ wq2 ⟨rfl, H3⟩
    replace H3 : S wq2 [Old w no] := H0.absorb (new := []) H3
    refine b_ret rfl rfl ?_
    refine l_of (s_val (v := .bool true) (wt0 rfl) rfl rfl (x_assign rfl rfl) ?_)
    refine g_nil ?_
    refine g_then ?_
    refine g_weak [(4, .bool true)] ⟨rfl, trivial⟩ ?_
    refine g_ret ?_
    refine g_then_ret ?_
    refine fin_ret [.tmp 4] [.bool true] rfl ⟨rfl, trivial⟩ ?_
    exact ⟨rfl, H3.mask [true]⟩
  · skip
    refine l_of (s_val (v := .int .i64 k) (wt1 rfl rfl rfl rfl (decide_eq_false hb1)) rfl rfl (x_move rfl rfl) ?_)
    refine l_of (s_val (v := .bool (decide ((k : Int) < 1))) (wt1 rfl rfl rfl rfl (decide_eq_false hb1)) rfl rfl (x_bin rfl rfl rfl b_lss) ?_)
    refine l_of (s_val (v := .bool (decide ((k : Int) < 1))) (wt0 rfl) rfl rfl (x_pick_f rfl rfl (decide_eq_false hb1) rfl) ?_)
    refine l_of (s_val (v := .bool (decide ((k : Int) < 1))) (wt0 rfl) rfl rfl (x_move rfl rfl) ?_)
    by_cases hb4 : (k : Int) < 1
    · skip
      refine l_of (s_not (wn1 rfl rfl rfl rfl (decide_eq_true hb4)) rfl rfl ?_)
      refine l_of (s_not (wn1 rfl rfl rfl rfl (decide_eq_true hb4)) rfl rfl ?_)
      refine l_of (s_val (v := .bool true) (wt0 rfl) rfl rfl (x_pick_t rfl rfl (decide_eq_true hb4) rfl) ?_)
      refine g_nil ?_
      refine g_then ?_
      refine g_cond_t rfl rfl ?_
      refine g_seq ?_
      refine g_region ?_
      refine l_of (s_call (wt0 rfl) (x_call' rfl rfl cl8) (awake_s _) ?_)
      rintro _ wq5 ⟨rfl, H6⟩
      replace H6 : S wq5 [Old w no] := H0.absorb (new := []) H6
      refine b_ret rfl rfl ?_
      refine l_of (s_val (v := .bool true) (wt0 rfl) rfl rfl (x_assign rfl rfl) ?_)
      refine g_nil ?_
      refine g_then ?_
      refine g_weak [(4, .bool true)] ⟨rfl, trivial⟩ ?_
      refine g_ret ?_
      refine g_then_ret ?_
      refine fin_ret [.tmp 4] [.bool true] rfl ⟨rfl, trivial⟩ ?_
      exact ⟨rfl, H6.mask [true]⟩
    · skip
      refine l_of (s_val (v := .int .i64 k) (wt1 rfl rfl rfl rfl (decide_eq_false hb4)) rfl rfl (x_move rfl rfl) ?_)
      refine l_of (s_val (v := .bool (decide ((8 : Int) < k))) (wt1 rfl rfl rfl rfl (decide_eq_false hb4)) rfl rfl (x_bin rfl rfl rfl b_gtr) ?_)
      refine l_of (s_val (v := .bool (decide ((8 : Int) < k))) (wt0 rfl) rfl rfl (x_pick_f rfl rfl (decide_eq_false hb4) rfl) ?_)
      refine g_nil ?_
      refine g_then ?_
      by_cases hb7 : (8 : Int) < k
      · skip
        refine g_cond_t rfl (decide_eq_true hb7) ?_
        refine g_seq ?_
        refine g_region ?_
        refine l_of (s_call (wt0 rfl) (x_call' rfl rfl cl8) (awake_s _) ?_)
        rintro _ wq8 ⟨rfl, H9⟩
        replace H9 : S wq8 [Old w no] := H0.absorb (new := []) H9
        refine b_ret rfl rfl ?_
        refine l_of (s_val (v := .bool true) (wt0 rfl) rfl rfl (x_assign rfl rfl) ?_)
        refine g_nil ?_
        refine g_then ?_
        refine g_weak [(4, .bool true)] ⟨rfl, trivial⟩ ?_
        refine g_ret ?_
        refine g_then_ret ?_
        refine fin_ret [.tmp 4] [.bool true] rfl ⟨rfl, trivial⟩ ?_
        exact ⟨rfl, H9.mask [true]⟩
      · skip
        refine g_cond_f rfl (decide_eq_false hb7) ?_
        refine g_skip ?_
        refine g_then ?_
        refine g_weak [(0, .slice p nr c), (1, .int .i64 k)] ⟨rfl, rfl, trivial⟩ ?_
        refine g_seq ?_
        refine g_seq ?_
        refine g_region ?_
        refine l_of (s_val (v := .slice p nr c) (wt0 rfl) rfl rfl (x_move rfl rfl) ?_)
        refine l_of (s_val (v := .int .i64 ((nr : Int))) (wt0 rfl) rfl rfl (x_lenl rfl rfl Try.underlying22) ?_)
        refine l_of (s_val (v := .int .i64 0) (wt0 rfl) rfl rfl (x_move rfl rfl) ?_)
        refine g_nil ?_
        refine g_then ?_
        refine g_block ?_
        refine g_loop (ι := Nat) (fun r => [(0, .slice p nr c), (1, .int .i64 k), (23, .slice p nr c), (24, .int .i64 ((nr : Int))), (25, .int .i64 ((r : Int)))]) (fun r wx => (r ≤ nr) ∧ S wx [Old w no]) (fun r => nr - r) (0) ⟨rfl, rfl, rfl, rfl, rfl, trivial⟩ ⟨Nat.zero_le _, H0⟩ ?_
        rintro r wq10 ⟨hri, H11⟩
        replace H11 : S wq10 [Old w no] := H11
        refine g_weak [(0, .slice p nr c), (1, .int .i64 k), (23, .slice p nr c), (24, .int .i64 ((nr : Int))), (25, .int .i64 ((r : Int)))] ⟨rfl, rfl, rfl, rfl, rfl, trivial⟩ ?_
        refine g_seq ?_
        refine g_region ?_
        refine l_of (s_val (v := .bool (decide (((r : Int) : Int) < (nr : Int)))) (wt0 rfl) rfl rfl (x_bin rfl rfl rfl b_lss) ?_)
        refine g_nil ?_
        refine g_then ?_
        refine g_seq ?_
        by_cases hb12 : ((r : Int) : Int) < (nr : Int)
        · skip
          obtain ⟨x, hx⟩ : ∃ x, l[r]? = some x := ⟨_, List.getElem?_eq_getElem (by omega)⟩
          have hx2 := hrr x (List.mem_of_getElem? hx)
          have hx3 := hx2.n1
          refine g_cond_t rfl (decide_eq_true hb12) ?_
          refine g_skip ?_
          refine g_then ?_
          refine g_seq ?_
          refine g_block ?_
          refine g_seq ?_
          refine g_region ?_
          refine l_of (s_val (v := .pointer ((p).map fun q => q.add (r * 2))) (wt0 rfl) rfl rfl (x_idxR r (H11.oldReads (k := 0) rfl hr) rfl rfl rfl Try.underlying22 sz27 (by omega)) ?_)
          refine l_of (s_val (v := .agg #[.slice x.1.p x.1.l.length x.1.c, .slice x.2.p x.2.l.length x.2.c]) (wt0 rfl) rfl rfl (x_loadRA (vs := (rrL x)) r (H11.oldReads (k := 0) rfl hr) (by omega) rfl rfl Try.underlying27 rfl sz27 (by rfl) (fun i u hu => flat_at (f := rrL) (size := 2) (fun _ _ => rfl) hx i u hu)) ?_)
          refine l_of (s_alloc H11 (wt0 rfl) rfl rfl rfl ze27 ?_)
          intro g13 wq14 H15
          refine l_of (s_store H15 0 (wt0 rfl) rfl rfl rfl rfl rfl sz27 rfl rfl (cs' := #[.slice x.1.p x.1.l.length x.1.c, .slice x.2.p x.2.l.length x.2.c]) rfl ?_)
          intro wq16 H17
          refine g_nil ?_
          refine g_then ?_
          refine g_seq ?_
          refine g_region ?_
          refine l_of (s_val (v := .pointer (some ⟨g13, 0, none⟩)) (wt0 rfl) rfl rfl (x_fieldAddr rfl rfl fo27_0 rfl) ?_)
          refine l_of (s_val (v := .slice x.1.p x.1.l.length x.1.c) (wt0 rfl) rfl rfl (x_load1 H17 0 rfl rfl Try.underlying24 rfl rfl rfl) ?_)
          refine l_of (s_val (v := .int .i64 ((x.1.l.length : Int))) (wt0 rfl) rfl rfl (x_lenl rfl rfl Try.underlying24) ?_)
          refine l_of (s_val (v := .bool (decide ((20 : Int) < (x.1.l.length : Int)))) (wt0 rfl) rfl rfl (x_bin rfl rfl rfl b_gtr) ?_)
          refine g_nil ?_
          refine g_then ?_
          by_cases hb18 : (20 : Int) < (x.1.l.length : Int)
          · skip
            refine g_cond_t rfl (decide_eq_true hb18) ?_
            refine g_seq ?_
            refine g_region ?_
            refine l_of (s_call (wt0 rfl) (x_call' rfl rfl cl8) (awake_s _) ?_)
            rintro _ wq19 ⟨rfl, H20⟩
            replace H20 : S wq19 [Ob g13 (.cells #[.slice x.1.p x.1.l.length x.1.c, .slice x.2.p x.2.l.length x.2.c] 27 (0, 0)), Old w no] := H17.absorb (new := []) H20
            refine b_ret rfl rfl ?_
            refine l_of (s_val (v := .bool true) (wt0 rfl) rfl rfl (x_assign rfl rfl) ?_)
            refine g_nil ?_
            refine g_then ?_
            refine g_weak [(4, .bool true)] ⟨rfl, trivial⟩ ?_
            refine g_ret ?_
            refine g_in_ret ?_
            refine g_then_ret ?_
            refine g_then_ret ?_
            refine g_in_ret ?_
            refine g_then_ret ?_
            refine fin_ret [.tmp 4] [.bool true] rfl ⟨rfl, trivial⟩ ?_
            exact ⟨rfl, H20.mask [false, true]⟩
          · skip
            refine g_cond_f rfl (decide_eq_false hb18) ?_
            refine g_skip ?_
            refine g_in ?_
            refine g_then ?_
            refine g_region ?_
            refine l_of (s_val (v := .int .i64 (((r + 1 : Nat) : Int))) (wt0 rfl) rfl rfl (x_bin rfl rfl rfl (b_add (by rw [w64 (by omega)]; omega))) ?_)
            refine l_of (s_val (v := .int .i64 (((r + 1 : Nat) : Int))) (wt0 rfl) rfl rfl (x_move rfl rfl) ?_)
            refine g_nil ?_
            refine g_then ?_
            refine g_round (i := (r)) ((r + 1)) ?_ ?_ ?_
            · exact ⟨rfl, rfl, rfl, rfl, rfl, trivial⟩
            · exact ⟨by omega, (H17.mask [false, true])⟩
            · (try dsimp only); omega
        · skip
          refine g_cond_f rfl (decide_eq_false hb12) ?_
          refine g_exit ?_
          refine g_then_exit ?_
          refine g_then_exit ?_
          refine g_in_hit ?_
          refine g_then ?_
          refine g_seq ?_
          refine g_region ?_
          obtain ⟨n, rfl⟩ : ∃ n : Nat, k = (n : Int) := ⟨k.toNat, by omega⟩
          have hn0 : 0 < n := by omega
          refine l_of (s_val (v := .slice p nr c) (wt0 rfl) rfl rfl (x_move rfl rfl) ?_)
          refine l_of (s_val (v := .int .i64 ((n : Int))) (wt0 rfl) rfl rfl (x_move rfl rfl) ?_)
          refine l_of (s_call (wt0 rfl) (x_call' rfl rfl cl9) (plays_s p nr c l n hnr hn0 (by omega) (by omega) _ (H11.oldReads (k := 0) rfl hr) (fun x hx => (hrr x hx).later (H11.takes [0] (by decide)))) ?_)
          rintro _ wq21 ⟨X, mg, M, ok, hok, hbm, hoo, rfl, H22⟩
          replace H22 : S wq21 [X.I, Mp (Value.int .i64) Value.bool okI mg M, Old w no] := H11.absorb (new := [X.I, Mp (Value.int .i64) Value.bool okI mg M]) H22
          refine b_ret rfl rfl ?_
          refine l_of (s_val (v := .tuple #[.pointer (some ⟨X.b, 0, none⟩), .map (some mg), .bool ok]) (wt0 rfl) rfl rfl (x_move rfl rfl) ?_)
          refine l_of (s_val (v := .pointer (some ⟨X.b, 0, none⟩)) (wt0 rfl) rfl rfl (x_extract rfl rfl rfl) ?_)
          refine l_of (s_val (v := .map (some mg)) (wt0 rfl) rfl rfl (x_extract rfl rfl rfl) ?_)
          refine l_of (s_val (v := .bool ok) (wt0 rfl) rfl rfl (x_extract rfl rfl rfl) ?_)
          refine l_of (s_val (v := .pointer (some ⟨X.b, 0, none⟩)) (wt0 rfl) rfl rfl (x_assign rfl rfl) ?_)
          refine l_of (s_val (v := .map (some mg)) (wt0 rfl) rfl rfl (x_assign rfl rfl) ?_)
          refine l_of (s_val (v := .bool ok) (wt0 rfl) rfl rfl (x_assign rfl rfl) ?_)
          refine g_nil ?_
          refine g_then ?_
          refine g_weak [(7, .pointer (some ⟨X.b, 0, none⟩)), (8, .map (some mg)), (9, .bool ok)] ⟨rfl, rfl, rfl, trivial⟩ ?_
          refine g_seq ?_
          refine g_seq ?_
          refine g_region ?_
          refine l_of (s_val (v := .int .i64 0) (wt0 rfl) rfl rfl (x_move rfl rfl) ?_)
          refine g_nil ?_
          refine g_then ?_
          refine g_block ?_
          refine g_loop (ι := Nat) (fun q => [(7, .pointer (some ⟨X.b, 0, none⟩)), (8, .map (some mg)), (9, .bool ok), (42, .int .i64 ((q : Int)))]) (fun q wx => (q ≤ 20) ∧ S wx [X.I, Mp (Value.int .i64) Value.bool okI mg M, Old w no]) (fun q => 20 - q) (0) ⟨rfl, rfl, rfl, rfl, trivial⟩ ⟨Nat.zero_le _, H22⟩ ?_
          rintro q wq23 ⟨hq20, H24⟩
          replace H24 : S wq23 [X.I, Mp (Value.int .i64) Value.bool okI mg M, Old w no] := H24
          refine g_weak [(7, .pointer (some ⟨X.b, 0, none⟩)), (8, .map (some mg)), (9, .bool ok), (42, .int .i64 ((q : Int)))] ⟨rfl, rfl, rfl, rfl, trivial⟩ ?_
          refine g_seq ?_
          refine g_region ?_
          refine l_of (s_val (v := .bool (decide (((q : Int) : Int) < 20))) (wt0 rfl) rfl rfl (x_bin rfl rfl rfl b_lss) ?_)
          refine g_nil ?_
          refine g_then ?_
          refine g_seq ?_
          by_cases hb25 : ((q : Int) : Int) < 20
          · skip
            have hok_q : okI (q : Int) := ok_small (by omega)
            refine g_cond_t rfl (decide_eq_true hb25) ?_
            refine g_skip ?_
            refine g_then ?_
            refine g_seq ?_
            refine g_block ?_
            refine g_seq ?_
            refine g_region ?_
            refine l_of (s_val (v := .int .i64 ((q : Int))) (wt0 rfl) rfl rfl (x_move rfl rfl) ?_)
            refine l_of (s_val (v := .int .i64 ((q : Int))) (wt0 rfl) rfl rfl (x_assign rfl rfl) ?_)
            refine g_nil ?_
            refine g_then ?_
            refine g_seq ?_
            refine g_any [] (fun wx => S wx [X.I, Mp (Value.int .i64) Value.bool okI mg M, Old w no]) [] (by kernel_rfl) H24 (fun wq26 H27 => ?_)
            refine a_take (v := .bool ok) 0 rfl (wt0 rfl) rfl rfl rfl (by kernel_rfl) (by kernel_rfl) (by kernel_rfl) (by kernel_rfl) H27 (fun wx H => x_move rfl rfl) ?_
            refine a_take (v := .bool ok) 1 rfl (wt0 rfl) rfl rfl rfl (by kernel_rfl) (by kernel_rfl) (by kernel_rfl) (by kernel_rfl) H27 (fun wx H => x_move rfl rfl) ?_
            rcases Bool.eq_false_or_eq_true (ok) with hb28 | hb28
            · skip
              have hoo2 := hoo hb28
              refine a_take (v := .pointer (some ⟨X.b, 0, none⟩)) 2 rfl (wt1 rfl rfl rfl rfl hb28) rfl rfl rfl (by kernel_rfl) (by kernel_rfl) (by kernel_rfl) (by kernel_rfl) H27 (fun wx H => x_move rfl rfl) ?_
              refine a_take (v := .int .i64 ((q : Int))) 3 rfl (wt1 rfl rfl rfl rfl hb28) rfl rfl rfl (by kernel_rfl) (by kernel_rfl) (by kernel_rfl) (by kernel_rfl) H27 (fun wx H => x_move rfl rfl) ?_
              refine a_take (v := .map (some mg)) 5 rfl (wt1 rfl rfl rfl rfl hb28) rfl rfl rfl (by kernel_rfl) (by kernel_rfl) (by kernel_rfl) (by kernel_rfl) H27 (fun wx H => x_move rfl rfl) ?_
              refine a_take (v := .int .i64 ((q : Int))) 6 rfl (wt1 rfl rfl rfl rfl hb28) rfl rfl rfl (by kernel_rfl) (by kernel_rfl) (by kernel_rfl) (by kernel_rfl) H27 (fun wx H => x_move rfl rfl) ?_
              refine a_take (v := .bool (((M (q : Int)).getD false))) 7 rfl (wt1 rfl rfl rfl rfl hb28) rfl rfl rfl (by kernel_rfl) (by kernel_rfl) (by kernel_rfl) (by kernel_rfl) H27 (fun wx H => ex_cast (x_lookup1 (x := (q : Int)) (intTy Try.underlying29 Try.underlying3) H 1 rfl rfl rfl rfl (hok_q) ze4) (look_B _)) ?_
              refine a_one (i := 4) (by kernel_rfl) rfl ?_
              refine s_call (wt1 rfl rfl rfl rfl hb28) (x_call' rfl rfl cl10) (banned_g hok rfl rfl hok_q rfl _ (H27.takes [0] (by decide))) ?_
              rintro _ wq29 ⟨rfl, H30⟩
              replace H30 : S wq29 [X.I, Mp (Value.int .i64) Value.bool okI mg M, Old w no] := H27.absorbI (new := [X.I]) [0] H30
              refine b_ret rfl rfl ?_
              refine a_k H30 ?_
              refine a_take (v := .bool (!(((X.A.bn (q : Int))) == (((M (q : Int)).getD false))))) 8 rfl (wt1 rfl rfl rfl rfl hb28) rfl rfl rfl (by kernel_rfl) (by kernel_rfl) (by kernel_rfl) (by kernel_rfl) H30 (fun wx H => x_bin rfl rfl rfl (b_neN Try.underlying4 rfl)) ?_
              refine a_take (v := .bool (!(((X.A.bn (q : Int))) == (((M (q : Int)).getD false))))) 9 rfl (wt1 rfl rfl rfl rfl hb28) rfl rfl rfl (by kernel_rfl) (by kernel_rfl) (by kernel_rfl) (by kernel_rfl) H30 (fun wx H => x_move rfl rfl) ?_
              refine a_take (v := .pointer (some ⟨X.b, 0, none⟩)) 10 rfl (wt1 rfl rfl rfl rfl (by rw [hoo2.1]; simp)) rfl rfl rfl (by kernel_rfl) (by kernel_rfl) (by kernel_rfl) (by kernel_rfl) H30 (fun wx H => x_move rfl rfl) ?_
              refine a_take (v := .int .i64 ((q : Int))) 11 rfl (wt1 rfl rfl rfl rfl (by rw [hoo2.1]; simp)) rfl rfl rfl (by kernel_rfl) (by kernel_rfl) (by kernel_rfl) (by kernel_rfl) H30 (fun wx H => x_move rfl rfl) ?_
              refine a_one (i := 12) (by kernel_rfl) rfl ?_
              refine s_call (wt1 rfl rfl rfl rfl (by rw [hoo2.1]; simp)) (x_call' rfl rfl cl11) (parole_g hok rfl rfl hok_q (hoo2.2 _) _ (H30.takes [0] (by decide))) ?_
              rintro _ wq31 ⟨rfl, H32⟩
              replace H32 : S wq31 [X.I, Mp (Value.int .i64) Value.bool okI mg M, Old w no] := H30.absorbI (new := [X.I]) [0] H32
              refine b_ret rfl rfl ?_
              refine a_k H32 ?_
              refine a_take (v := .bool false) 13 rfl (wt1 rfl rfl rfl rfl hb28) rfl rfl rfl (by kernel_rfl) (by kernel_rfl) (by kernel_rfl) (by kernel_rfl) H32 (fun wx H => x_pick_f rfl rfl (by rw [hoo2.1]; simp) rfl) ?_
              refine a_take (v := .bool false) 14 rfl (wt0 rfl) rfl rfl rfl (by kernel_rfl) (by kernel_rfl) (by kernel_rfl) (by kernel_rfl) H32 (fun wx H => x_pick_t rfl rfl hb28 rfl) ?_
              refine a_take (v := .bool false) 15 rfl (wt0 rfl) rfl rfl rfl (by kernel_rfl) (by kernel_rfl) (by kernel_rfl) (by kernel_rfl) H32 (fun wx H => x_move rfl rfl) ?_
              refine a_take (v := .pointer (some ⟨X.b, 0, none⟩)) 16 rfl (wt1 rfl rfl rfl rfl rfl) rfl rfl rfl (by kernel_rfl) (by kernel_rfl) (by kernel_rfl) (by kernel_rfl) H32 (fun wx H => x_move rfl rfl) ?_
              refine a_take (v := .int .i64 ((q : Int))) 17 rfl (wt1 rfl rfl rfl rfl rfl) rfl rfl rfl (by kernel_rfl) (by kernel_rfl) (by kernel_rfl) (by kernel_rfl) H32 (fun wx H => x_move rfl rfl) ?_
              refine a_one (i := 18) (by kernel_rfl) rfl ?_
              refine s_call (wt1 rfl rfl rfl rfl rfl) (x_call' rfl rfl cl10) (banned_g hok rfl rfl hok_q rfl _ (H32.takes [0] (by decide))) ?_
              rintro _ wq33 ⟨rfl, H34⟩
              replace H34 : S wq33 [X.I, Mp (Value.int .i64) Value.bool okI mg M, Old w no] := H32.absorbI (new := [X.I]) [0] H34
              refine b_ret rfl rfl ?_
              refine a_k H34 ?_
              refine a_take (v := .bool ((X.A.bn (q : Int)))) 19 rfl (wt1 rfl rfl rfl rfl rfl) rfl rfl rfl (by kernel_rfl) (by kernel_rfl) (by kernel_rfl) (by kernel_rfl) H34 (fun wx H => x_move rfl rfl) ?_
              rcases Bool.eq_false_or_eq_true ((X.A.bn (q : Int))) with hb35 | hb35
              · skip
                refine a_take (v := .map (some mg)) 20 rfl (wt1 rfl rfl rfl rfl hb35) rfl rfl rfl (by kernel_rfl) (by kernel_rfl) (by kernel_rfl) (by kernel_rfl) H34 (fun wx H => x_move rfl rfl) ?_
                refine a_take (v := .int .i64 ((q : Int))) 21 rfl (wt1 rfl rfl rfl rfl hb35) rfl rfl rfl (by kernel_rfl) (by kernel_rfl) (by kernel_rfl) (by kernel_rfl) H34 (fun wx H => x_move rfl rfl) ?_
                refine a_take (v := .bool (((M (q : Int)).getD false))) 22 rfl (wt1 rfl rfl rfl rfl hb35) rfl rfl rfl (by kernel_rfl) (by kernel_rfl) (by kernel_rfl) (by kernel_rfl) H34 (fun wx H => ex_cast (x_lookup1 (x := (q : Int)) (intTy Try.underlying29 Try.underlying3) H 1 rfl rfl rfl rfl (hok_q) ze4) (look_B _)) ?_
                refine a_take (v := .bool (!(((M (q : Int)).getD false)))) 23 rfl (wt1 rfl rfl rfl rfl hb35) rfl rfl rfl (by kernel_rfl) (by kernel_rfl) (by kernel_rfl) (by kernel_rfl) H34 (fun wx H => x_not (b := ((M (q : Int)).getD false)) rfl rfl) ?_
                refine a_take (v := .bool (!(((M (q : Int)).getD false)))) 24 rfl (wt1 rfl rfl rfl rfl rfl) rfl rfl rfl (by kernel_rfl) (by kernel_rfl) (by kernel_rfl) (by kernel_rfl) H34 (fun wx H => x_pick_t rfl rfl hb35 rfl) ?_
                refine a_take (v := .bool (!(((M (q : Int)).getD false)))) 25 rfl (wt0 rfl) rfl rfl rfl (by kernel_rfl) (by kernel_rfl) (by kernel_rfl) (by kernel_rfl) H34 (fun wx H => x_pick_f rfl rfl rfl rfl) ?_
                refine a_done (by kernel_rfl) ?_
                refine g_then ?_
                refine g_cond_f rfl (neg_of (hbm _ (by assumption))) ?_
                refine g_skip ?_
                refine g_in ?_
                refine g_then ?_
                refine g_region ?_
                refine l_of (s_val (v := .int .i64 (((q + 1 : Nat) : Int))) (wt0 rfl) rfl rfl (x_bin rfl rfl rfl (b_add (by rw [w64 (by omega)]; omega))) ?_)
                refine l_of (s_val (v := .int .i64 (((q + 1 : Nat) : Int))) (wt0 rfl) rfl rfl (x_move rfl rfl) ?_)
                refine g_nil ?_
                refine g_then ?_
                refine g_round (i := (q)) ((q + 1)) ?_ ?_ ?_
                · exact ⟨rfl, rfl, rfl, rfl, trivial⟩
                · exact ⟨by omega, H34⟩
                · (try dsimp only); omega
              · skip
                refine a_not 20 rfl (wn1 rfl rfl rfl rfl hb35) rfl rfl rfl (by kernel_rfl) (by kernel_rfl) (by kernel_rfl) (by kernel_rfl) H34 ?_
                refine a_not 21 rfl (wn1 rfl rfl rfl rfl hb35) rfl rfl rfl (by kernel_rfl) (by kernel_rfl) (by kernel_rfl) (by kernel_rfl) H34 ?_
                refine a_not 22 rfl (wn1 rfl rfl rfl rfl hb35) rfl rfl rfl (by kernel_rfl) (by kernel_rfl) (by kernel_rfl) (by kernel_rfl) H34 ?_
                refine a_not 23 rfl (wn1 rfl rfl rfl rfl hb35) rfl rfl rfl (by kernel_rfl) (by kernel_rfl) (by kernel_rfl) (by kernel_rfl) H34 ?_
                refine a_take (v := .bool false) 24 rfl (wt1 rfl rfl rfl rfl rfl) rfl rfl rfl (by kernel_rfl) (by kernel_rfl) (by kernel_rfl) (by kernel_rfl) H34 (fun wx H => x_pick_f rfl rfl hb35 rfl) ?_
                refine a_take (v := .bool false) 25 rfl (wt0 rfl) rfl rfl rfl (by kernel_rfl) (by kernel_rfl) (by kernel_rfl) (by kernel_rfl) H34 (fun wx H => x_pick_f rfl rfl rfl rfl) ?_
                refine a_done (by kernel_rfl) ?_
                refine g_then ?_
                refine g_cond_f rfl rfl ?_
                refine g_skip ?_
                refine g_in ?_
                refine g_then ?_
                refine g_region ?_
                refine l_of (s_val (v := .int .i64 (((q + 1 : Nat) : Int))) (wt0 rfl) rfl rfl (x_bin rfl rfl rfl (b_add (by rw [w64 (by omega)]; omega))) ?_)
                refine l_of (s_val (v := .int .i64 (((q + 1 : Nat) : Int))) (wt0 rfl) rfl rfl (x_move rfl rfl) ?_)
                refine g_nil ?_
                refine g_then ?_
                refine g_round (i := (q)) ((q + 1)) ?_ ?_ ?_
                · exact ⟨rfl, rfl, rfl, rfl, trivial⟩
                · exact ⟨by omega, H34⟩
                · (try dsimp only); omega
            · skip
              refine a_not 2 rfl (wn1 rfl rfl rfl rfl hb28) rfl rfl rfl (by kernel_rfl) (by kernel_rfl) (by kernel_rfl) (by kernel_rfl) H27 ?_
              refine a_not 3 rfl (wn1 rfl rfl rfl rfl hb28) rfl rfl rfl (by kernel_rfl) (by kernel_rfl) (by kernel_rfl) (by kernel_rfl) H27 ?_
              refine a_not 5 rfl (wn1 rfl rfl rfl rfl hb28) rfl rfl rfl (by kernel_rfl) (by kernel_rfl) (by kernel_rfl) (by kernel_rfl) H27 ?_
              refine a_not 6 rfl (wn1 rfl rfl rfl rfl hb28) rfl rfl rfl (by kernel_rfl) (by kernel_rfl) (by kernel_rfl) (by kernel_rfl) H27 ?_
              refine a_not 7 rfl (wn1 rfl rfl rfl rfl hb28) rfl rfl rfl (by kernel_rfl) (by kernel_rfl) (by kernel_rfl) (by kernel_rfl) H27 ?_
              refine a_one (i := 4) (by kernel_rfl) rfl ?_
              refine s_not (wn1 rfl rfl rfl rfl hb28) rfl rfl ?_
              refine a_k H27 ?_
              refine a_not 8 rfl (wn1 rfl rfl rfl rfl hb28) rfl rfl rfl (by kernel_rfl) (by kernel_rfl) (by kernel_rfl) (by kernel_rfl) H27 ?_
              refine a_not 9 rfl (wn1 rfl rfl rfl rfl hb28) rfl rfl rfl (by kernel_rfl) (by kernel_rfl) (by kernel_rfl) (by kernel_rfl) H27 ?_
              refine a_not 10 rfl (wn2 rfl rfl rfl rfl) rfl rfl rfl (by kernel_rfl) (by kernel_rfl) (by kernel_rfl) (by kernel_rfl) H27 ?_
              refine a_not 11 rfl (wn2 rfl rfl rfl rfl) rfl rfl rfl (by kernel_rfl) (by kernel_rfl) (by kernel_rfl) (by kernel_rfl) H27 ?_
              refine a_one (i := 12) (by kernel_rfl) rfl ?_
              refine s_not (wn2 rfl rfl rfl rfl) rfl rfl ?_
              refine a_k H27 ?_
              refine a_not 13 rfl (wn1 rfl rfl rfl rfl hb28) rfl rfl rfl (by kernel_rfl) (by kernel_rfl) (by kernel_rfl) (by kernel_rfl) H27 ?_
              refine a_take (v := .bool false) 14 rfl (wt0 rfl) rfl rfl rfl (by kernel_rfl) (by kernel_rfl) (by kernel_rfl) (by kernel_rfl) H27 (fun wx H => x_pick_f rfl rfl hb28 rfl) ?_
              refine a_take (v := .bool false) 15 rfl (wt0 rfl) rfl rfl rfl (by kernel_rfl) (by kernel_rfl) (by kernel_rfl) (by kernel_rfl) H27 (fun wx H => x_move rfl rfl) ?_
              refine a_take (v := .pointer (some ⟨X.b, 0, none⟩)) 16 rfl (wt1 rfl rfl rfl rfl rfl) rfl rfl rfl (by kernel_rfl) (by kernel_rfl) (by kernel_rfl) (by kernel_rfl) H27 (fun wx H => x_move rfl rfl) ?_
              refine a_take (v := .int .i64 ((q : Int))) 17 rfl (wt1 rfl rfl rfl rfl rfl) rfl rfl rfl (by kernel_rfl) (by kernel_rfl) (by kernel_rfl) (by kernel_rfl) H27 (fun wx H => x_move rfl rfl) ?_
              refine a_one (i := 18) (by kernel_rfl) rfl ?_
              refine s_call (wt1 rfl rfl rfl rfl rfl) (x_call' rfl rfl cl10) (banned_g hok rfl rfl hok_q rfl _ (H27.takes [0] (by decide))) ?_
              rintro _ wq36 ⟨rfl, H37⟩
              replace H37 : S wq36 [X.I, Mp (Value.int .i64) Value.bool okI mg M, Old w no] := H27.absorbI (new := [X.I]) [0] H37
              refine b_ret rfl rfl ?_
              refine a_k H37 ?_
              refine a_take (v := .bool ((X.A.bn (q : Int)))) 19 rfl (wt1 rfl rfl rfl rfl rfl) rfl rfl rfl (by kernel_rfl) (by kernel_rfl) (by kernel_rfl) (by kernel_rfl) H37 (fun wx H => x_move rfl rfl) ?_
              rcases Bool.eq_false_or_eq_true ((X.A.bn (q : Int))) with hb38 | hb38
              · skip
                refine a_take (v := .map (some mg)) 20 rfl (wt1 rfl rfl rfl rfl hb38) rfl rfl rfl (by kernel_rfl) (by kernel_rfl) (by kernel_rfl) (by kernel_rfl) H37 (fun wx H => x_move rfl rfl) ?_
                refine a_take (v := .int .i64 ((q : Int))) 21 rfl (wt1 rfl rfl rfl rfl hb38) rfl rfl rfl (by kernel_rfl) (by kernel_rfl) (by kernel_rfl) (by kernel_rfl) H37 (fun wx H => x_move rfl rfl) ?_
                refine a_take (v := .bool (((M (q : Int)).getD false))) 22 rfl (wt1 rfl rfl rfl rfl hb38) rfl rfl rfl (by kernel_rfl) (by kernel_rfl) (by kernel_rfl) (by kernel_rfl) H37 (fun wx H => ex_cast (x_lookup1 (x := (q : Int)) (intTy Try.underlying29 Try.underlying3) H 1 rfl rfl rfl rfl (hok_q) ze4) (look_B _)) ?_
                refine a_take (v := .bool (!(((M (q : Int)).getD false)))) 23 rfl (wt1 rfl rfl rfl rfl hb38) rfl rfl rfl (by kernel_rfl) (by kernel_rfl) (by kernel_rfl) (by kernel_rfl) H37 (fun wx H => x_not (b := ((M (q : Int)).getD false)) rfl rfl) ?_
                refine a_take (v := .bool (!(((M (q : Int)).getD false)))) 24 rfl (wt1 rfl rfl rfl rfl rfl) rfl rfl rfl (by kernel_rfl) (by kernel_rfl) (by kernel_rfl) (by kernel_rfl) H37 (fun wx H => x_pick_t rfl rfl hb38 rfl) ?_
                refine a_take (v := .bool (!(((M (q : Int)).getD false)))) 25 rfl (wt0 rfl) rfl rfl rfl (by kernel_rfl) (by kernel_rfl) (by kernel_rfl) (by kernel_rfl) H37 (fun wx H => x_pick_f rfl rfl rfl rfl) ?_
                refine a_done (by kernel_rfl) ?_
                refine g_then ?_
                refine g_cond_f rfl (neg_of (hbm _ (by assumption))) ?_
                refine g_skip ?_
                refine g_in ?_
                refine g_then ?_
                refine g_region ?_
                refine l_of (s_val (v := .int .i64 (((q + 1 : Nat) : Int))) (wt0 rfl) rfl rfl (x_bin rfl rfl rfl (b_add (by rw [w64 (by omega)]; omega))) ?_)
                refine l_of (s_val (v := .int .i64 (((q + 1 : Nat) : Int))) (wt0 rfl) rfl rfl (x_move rfl rfl) ?_)
                refine g_nil ?_
                refine g_then ?_
                refine g_round (i := (q)) ((q + 1)) ?_ ?_ ?_
                · exact ⟨rfl, rfl, rfl, rfl, trivial⟩
                · exact ⟨by omega, H37⟩
                · (try dsimp only); omega
              · skip
                refine a_not 20 rfl (wn1 rfl rfl rfl rfl hb38) rfl rfl rfl (by kernel_rfl) (by kernel_rfl) (by kernel_rfl) (by kernel_rfl) H37 ?_
                refine a_not 21 rfl (wn1 rfl rfl rfl rfl hb38) rfl rfl rfl (by kernel_rfl) (by kernel_rfl) (by kernel_rfl) (by kernel_rfl) H37 ?_
                refine a_not 22 rfl (wn1 rfl rfl rfl rfl hb38) rfl rfl rfl (by kernel_rfl) (by kernel_rfl) (by kernel_rfl) (by kernel_rfl) H37 ?_
                refine a_not 23 rfl (wn1 rfl rfl rfl rfl hb38) rfl rfl rfl (by kernel_rfl) (by kernel_rfl) (by kernel_rfl) (by kernel_rfl) H37 ?_
                refine a_take (v := .bool false) 24 rfl (wt1 rfl rfl rfl rfl rfl) rfl rfl rfl (by kernel_rfl) (by kernel_rfl) (by kernel_rfl) (by kernel_rfl) H37 (fun wx H => x_pick_f rfl rfl hb38 rfl) ?_
                refine a_take (v := .bool false) 25 rfl (wt0 rfl) rfl rfl rfl (by kernel_rfl) (by kernel_rfl) (by kernel_rfl) (by kernel_rfl) H37 (fun wx H => x_pick_f rfl rfl rfl rfl) ?_
                refine a_done (by kernel_rfl) ?_
                refine g_then ?_
                refine g_cond_f rfl rfl ?_
                refine g_skip ?_
                refine g_in ?_
                refine g_then ?_
                refine g_region ?_
                refine l_of (s_val (v := .int .i64 (((q + 1 : Nat) : Int))) (wt0 rfl) rfl rfl (x_bin rfl rfl rfl (b_add (by rw [w64 (by omega)]; omega))) ?_)
                refine l_of (s_val (v := .int .i64 (((q + 1 : Nat) : Int))) (wt0 rfl) rfl rfl (x_move rfl rfl) ?_)
                refine g_nil ?_
                refine g_then ?_
                refine g_round (i := (q)) ((q + 1)) ?_ ?_ ?_
                · exact ⟨rfl, rfl, rfl, rfl, trivial⟩
                · exact ⟨by omega, H37⟩
                · (try dsimp only); omega
          · skip
            refine g_cond_f rfl (decide_eq_false hb25) ?_
            refine g_exit ?_
            refine g_then_exit ?_
            refine g_then_exit ?_
            refine g_in_hit ?_
            refine g_then ?_
            refine g_seq ?_
            refine g_region ?_
            refine l_of (s_call (wt0 rfl) (x_call' rfl rfl cl8) (awake_s _) ?_)
            rintro _ wq39 ⟨rfl, H40⟩
            replace H40 : S wq39 [X.I, Mp (Value.int .i64) Value.bool okI mg M, Old w no] := H24.absorb (new := []) H40
            refine b_ret rfl rfl ?_
            refine l_of (s_val (v := .bool true) (wt0 rfl) rfl rfl (x_assign rfl rfl) ?_)
            refine g_nil ?_
            refine g_then ?_
            refine g_ret ?_
            refine fin_ret [.tmp 4] [.bool true] rfl ⟨rfl, trivial⟩ ?_
            exact ⟨rfl, H40.mask [false, false, true]⟩
end Go.Proofs.Ytlikhpfdncidkaa
