import Derived.Test.YtdkfkdekiljcoaaCG
import Derived.Test.YtdkfkdekiljcoaaFk
set_option linter.unusedSimpArgs false
set_option linter.unusedVariables false
namespace Go.Proofs.Ytdkfkdekiljcoaa
open Go.RowKit

def zV (l : List Int) : List Value := l.map fun (x : Int) => Value.int .i64 x
theorem zV_at {l : List Int} {j : Nat} (h : j < l.length) : (zV l)[j * 1]? = some (.int .i64 (l.getD j 0)) := by
  unfold zV; rw [Nat.mul_one, List.getElem?_map, List.getD_eq_getElem?_getD, List.getElem?_eq_getElem h]; rfl
def tellB (k : Int) : Bool := decide (k = 7) || decide (k = 13) || decide (k = 14)
/-- A number is in a list, as a walk finds it. -/
def inB (l : List Int) (x : Int) : Bool := decide (x ∈ l)
theorem in_here {l : List Int} {x : Int} {j : Nat} (hj : j < l.length) (h : l.getD j 0 = x) : x ∈ l := by
  rw [List.getD_eq_getElem?_getD, List.getElem?_eq_getElem hj] at h
  have h : l[j] = x := h
  rw [← h]; exact List.getElem_mem hj
theorem in_none {l : List Int} {x : Int} (hno : ∀ i, i < l.length → ¬ l.getD i 0 = x) : ¬ x ∈ l := fun h => by
  obtain ⟨i, hi, he⟩ := List.getElem_of_mem h
  exact hno i hi (by rw [List.getD_eq_getElem?_getD, List.getElem?_eq_getElem hi]; exact he)
set_option maxRecDepth 20000 in
set_option maxHeartbeats 4000000 in
theorem way_s (b : Bool) (w : World) : Calls Try.prog 23 #[.bool b] w fun e w' => e = .returned (.int .i64 (if b = true then 1 else 0)) ∧ S w' [Old w no] := by
 have H0 := S.old w
 refine enter 4 Try.func23 rfl rfl rfl ?_
 refine g_weak [(0, .bool b)] ⟨rfl, trivial⟩ ?_
 refine w_s ?_
 refine w_a ?_
 refine w_e ?_
 refine g_seq ?_
 refine w_s ?_
 refine w_m ?_
 refine w_e ?_
 rcases Bool.eq_false_or_eq_true (b) with hb1 | hb1
 ·
  refine g_cond_t rfl hb1 ?_
  refine w_s ?_
  refine w_a ?_
  refine w_e ?_
  refine g_ret ?_
  refine g_then_ret ?_
  refine fin_ret [.tmp 2] [.int .i64 1] rfl ⟨rfl, trivial⟩ ?_
  exact ⟨by rw [if_pos hb1]; rfl, H0.mask [true]⟩
 ·
  refine g_cond_f rfl hb1 ?_
  refine g_skip ?_
  refine g_then ?_
  refine w_s ?_
  refine w_a ?_
  refine w_e ?_
  refine g_ret ?_
  refine fin_ret [.tmp 2] [.int .i64 0] rfl ⟨rfl, trivial⟩ ?_
  exact ⟨by rw [if_neg (by rw [hb1]; exact Bool.false_ne_true)]; rfl, H0.mask [true]⟩
set_option maxRecDepth 20000 in
set_option maxHeartbeats 4000000 in
theorem need_t (n : Int) (w : World) : Calls Try.prog 31 #[.bool true, .int .i64 n] w fun e w' => e = .returned (.tuple #[]) ∧ S w' [Old w no] := by
 have H0 := S.old w
 refine enter 8 Try.func31 rfl rfl rfl ?_
 refine g_weak [(0, .bool true), (1, .int .i64 n)] ⟨rfl, rfl, trivial⟩ ?_
 refine w_s ?_
 refine w_m ?_
 refine w_v (v := .bool false) (x_not (b := true) rfl rfl) ?_
 refine w_e ?_
 refine g_cond_f rfl rfl ?_
 refine g_skip ?_
 refine fin_end [] [] rfl trivial ?_
 exact ⟨rfl, H0.mask [true]⟩
set_option maxRecDepth 20000 in
set_option maxHeartbeats 4000000 in
theorem need_f (n : Int) (w : World) : Calls Try.prog 31 #[.bool false, .int .i64 n] w fun e w' => e = .panicked [{ v := .iface 72 (.int .i64 n), recovered := false }] ∧ S w' [Old w no] := by
 have H0 := S.old w
 refine enter 8 Try.func31 rfl rfl rfl ?_
 refine g_weak [(0, .bool false), (1, .int .i64 n)] ⟨rfl, rfl, trivial⟩ ?_
 refine w_s ?_
 refine w_m ?_
 refine w_v (v := .bool true) (x_not (b := false) rfl rfl) ?_
 refine w_e ?_
 refine g_cond_t rfl rfl ?_
 refine g_region ?_
 refine w_m ?_
 refine w_v (v := .iface 72 (.int .i64 n)) (x_makeInterface rfl rfl Try.underlying72 rfl) ?_
 refine l_of (s_panic (wt0 rfl) (xp_panic rfl rfl) ?_)
 refine fin_panic ?_
 exact ⟨rfl, H0.mask [true]⟩
end Go.Proofs.Ytdkfkdekiljcoaa
namespace Go.Proofs.Ytdkfkdekiljcoaa
open Go.RowKit

theorem cl60 : callable Try.prog 60 = true := by kernel_rfl
theorem sz3 : szO Try.prog 3 = some 1 := by kernel_rfl
theorem in_step {l : List Int} {x : Int} {j : Nat} (hno : ∀ i, i < j → ¬ l.getD i 0 = x) (h : ¬ l.getD j 0 = x) : ∀ i, i < j + 1 → ¬ l.getD i 0 = x := fun i hi => by
  rcases Nat.lt_succ_iff_lt_or_eq.1 hi with h1 | h1
  · exact hno i h1
  · rw [h1]; exact h
set_option maxRecDepth 20000 in
set_option maxHeartbeats 4000000 in
theorem index_i (l : List Int) (p : Option Addr) (c : Nat) (x : Int) (hm : l.length ≤ 1099511627776) (w : World) (hr : Reads w p l.length c 1 (zV l)) : Calls Try.prog 60 #[.slice p l.length c, .int .i64 x] w fun e w' => ∃ r : Int, e = .returned (.int .i64 r) ∧ (0 ≤ r ↔ x ∈ l) ∧ S w' [Old w no] := by
 have H0 := S.old w
 refine enter 19 Try.func60 rfl rfl rfl ?_
 refine g_weak [(0, .slice p l.length c), (1, .int .i64 x)] ⟨rfl, rfl, trivial⟩ ?_
 refine w_s ?_
 refine w_a ?_
 refine w_e ?_
 refine g_seq ?_
 refine w_s ?_
 refine w_m ?_
 refine w_v (v := .int .i64 ((l.length : Int))) (x_lenl rfl rfl Try.underlying45) ?_
 refine w_m ?_
 refine w_e ?_
 refine g_block ?_
 refine g_loop (ι := Nat) (fun j => [(0, .slice p l.length c), (1, .int .i64 x), (7, .int .i64 ((l.length : Int))), (8, .int .i64 ((j : Int)))]) (fun j wx => (j ≤ l.length) ∧ (∀ i, i < j → ¬ l.getD i 0 = x) ∧ S wx [Old w no]) (fun j => l.length - j) (0) ⟨rfl, rfl, rfl, rfl, trivial⟩ ⟨Nat.zero_le _, (fun i hi => absurd hi (Nat.not_lt_zero i)), H0⟩ ?_
 rintro j wq1 ⟨hj, hno, H2⟩
 refine g_weak [(0, .slice p l.length c), (1, .int .i64 x), (7, .int .i64 ((l.length : Int))), (8, .int .i64 ((j : Int)))] ⟨rfl, rfl, rfl, rfl, trivial⟩ ?_
 refine w_s ?_
 refine w_b ?_
 refine w_e ?_
 refine g_seq ?_
 by_cases hb3 : ((j : Int) : Int) < (l.length : Int)
 ·
  have hps : ∃ a, p = some a := ((H2.oldReads (k := 0) rfl hr).2.2 (by omega)).imp fun _ h => h.1
  refine g_cond_t rfl (decide_eq_true hb3) ?_
  refine g_skip ?_
  refine g_then ?_
  refine g_seq ?_
  refine g_block ?_
  refine w_s ?_
  refine w_r2 ?_
  refine w_e ?_
  refine w_s ?_
  refine w_r3 ?_
  refine w_v (v := .pointer ((p).map fun q => q.add (j * 1))) (x_idxR j (H2.oldReads (k := 0) rfl hr) rfl rfl rfl Try.underlying45 sz3 (by omega)) ?_
  refine w_v (v := .int .i64 ((l.getD (j) 0))) (x_loadR1 j (H2.oldReads (k := 0) rfl hr) (by omega) rfl rfl Try.underlying3 rfl (zV_at (by omega))) ?_
  refine w_b ?_
  refine w_e ?_
  by_cases hb4 : (x : Int) = (l.getD (j) 0)
  ·
   refine g_cond_t rfl (decide_eq_true hb4) ?_
   refine w_s ?_
   refine w_r2 ?_
   refine w_e ?_
   refine g_weak [(4, .int .i64 ((j : Int)))] ⟨rfl, trivial⟩ ?_
   refine g_ret ?_
   refine g_in_ret ?_
   refine g_then_ret ?_
   refine g_then_ret ?_
   refine g_in_ret ?_
   refine g_then_ret ?_
   refine fin_ret [.tmp 4] [.int .i64 ((j : Int))] rfl ⟨rfl, trivial⟩ ?_
   exact ⟨_, rfl, ⟨fun _ => in_here (by omega) hb4.symm, fun _ => Int.natCast_nonneg _⟩, H2.mask [true]⟩
  ·
   refine g_cond_f rfl (decide_eq_false hb4) ?_
   refine g_skip ?_
   refine g_in ?_
   refine g_then ?_
   refine g_region ?_
   refine w_b (v := .int .i64 ((j : Int) + 1)) (hb := (b_add (w64 (by omega)))) ?_
   refine w_m ?_
   refine w_e ?_
   refine g_round (i := (j)) (j + 1) ?_ ?_ ?_
   · exact ⟨rfl, rfl, rfl, rfl, trivial⟩
   · exact ⟨by omega, (in_step hno (fun q => hb4 q.symm)), H2⟩
   · (try dsimp only); omega
 ·
  refine g_cond_f rfl (decide_eq_false hb3) ?_
  refine g_exit ?_
  refine g_then_exit ?_
  refine g_then_exit ?_
  refine g_in_hit ?_
  refine g_then ?_
  refine w_s ?_
  refine w_a ?_
  refine w_e ?_
  refine g_ret ?_
  refine fin_ret [.tmp 4] [.int .i64 (-1)] rfl ⟨rfl, trivial⟩ ?_
  exact ⟨-1, rfl, ⟨fun h => absurd h (by decide), fun h => absurd h (in_none (fun i hi => hno i (by omega)))⟩, H2.mask [true]⟩
set_option maxRecDepth 20000 in
set_option maxHeartbeats 4000000 in
theorem contains_i (l : List Int) (p : Option Addr) (c : Nat) (x : Int) (hm : l.length ≤ 1099511627776) (w : World) (hr : Reads w p l.length c 1 (zV l)) : Calls Try.prog 37 #[.slice p l.length c, .int .i64 x] w fun e w' => e = .returned (.bool (inB l x)) ∧ S w' [Old w no] := by
 have H0 := S.old w
 refine enter 9 Try.func37 rfl rfl rfl ?_
 refine g_weak [(0, .slice p l.length c), (1, .int .i64 x)] ⟨rfl, rfl, trivial⟩ ?_
 refine w_s ?_
 refine w_a ?_
 refine w_e ?_
 refine w_s ?_
 refine w_r2 ?_
 refine l_of (s_call (wt0 rfl) (x_call' rfl rfl cl60) (index_i l p c x hm _ (H0.oldReads (k := 0) rfl hr)) ?_)
 rintro _ wq1 ⟨r, rfl, hri, H2⟩
 replace H2 : S wq1 [Old w no] := H0.absorb (new := []) H2
 refine b_ret rfl rfl ?_
 refine w_b ?_
 refine w_a ?_
 refine w_e ?_
 refine g_ret ?_
 refine fin_ret [.tmp 4] [.bool (decide ((0 : Int) ≤ r))] rfl ⟨rfl, trivial⟩ ?_
 exact ⟨by unfold inB; rw [decide_eq_decide.2 hri.symm]; rfl, H2.mask [true]⟩
end Go.Proofs.Ytdkfkdekiljcoaa
namespace Go.Proofs.Ytdkfkdekiljcoaa
open Go.RowKit

theorem cl75 : callable Try.prog 75 = true := by kernel_rfl
theorem sz49 : szO Try.prog 49 = some 3 := by kernel_rfl
structure Ch where
  p : Int
  b : Int
  n : Int
deriving DecidableEq
def Ch.none : Ch := ⟨0, 0, 0⟩
def Ch.cellsL (c : Ch) : List Value := [.int .i64 c.p, .int .i64 c.b, .int .i64 c.n]
def Ch.cells (c : Ch) : Array Value := #[.int .i64 c.p, .int .i64 c.b, .int .i64 c.n]
def chV (l : List Ch) : List Value := l.flatMap Ch.cellsL
theorem chV_at {l : List Ch} {j : Nat} (h : j < l.length) : ∀ i u, (l.getD j Ch.none).cellsL[i]? = some u → (chV l)[j * 3 + i]? = some u :=
  flat_at (size := 3) (fun _ _ => rfl) (by rw [List.getD_eq_getElem?_getD, List.getElem?_eq_getElem h]; rfl)
theorem eqgCh : Try.prog.eqGuardType Try.prog.depth 49 = false := by kernel_rfl
theorem ch_eql (a b : Ch) (w : World) : (binOp .eql 49 (.agg a.cells) (.agg b.cells)).run Try.prog w = .ok (.bool (decide (a = b))) w := by
  obtain ⟨a1, a2, a3⟩ := a
  obtain ⟨b1, b2, b3⟩ := b
  by_cases h1 : a1 = b1
  · subst h1
    by_cases h2 : a2 = b2
    · subst h2
      by_cases h3 : a3 = b3
      · subst h3; simp [Ch.cells, go_sem]
      · simp [Ch.cells, go_sem, h3]
    · simp [Ch.cells, go_sem, h2]
  · simp [Ch.cells, go_sem, h1]
theorem b_chE {xo yo : Operand} {w : World} (a b : Ch) : Bin Try.prog .eql 49 xo yo (.agg a.cells) (.agg b.cells) w (.bool (decide (a = b))) := by
  unfold Bin
  simp only [Sem.run_bind, run_eqGuard_agg w .eql 49 xo yo a.cells b.cells eqgCh, Result.andThen_ok]
  exact ch_eql a b w
theorem chin_here {l : List Ch} {x : Ch} {j : Nat} (hj : j < l.length) (h : l.getD j Ch.none = x) : x ∈ l := by
  rw [List.getD_eq_getElem?_getD, List.getElem?_eq_getElem hj] at h
  have h : l[j] = x := h
  rw [← h]; exact List.getElem_mem hj
theorem chin_none {l : List Ch} {x : Ch} (hno : ∀ i, i < l.length → ¬ l.getD i Ch.none = x) : ¬ x ∈ l := fun h => by
  obtain ⟨i, hi, he⟩ := List.getElem_of_mem h
  exact hno i hi (by rw [List.getD_eq_getElem?_getD, List.getElem?_eq_getElem hi]; exact he)
theorem chin_step {l : List Ch} {x : Ch} {j : Nat} (hno : ∀ i, i < j → ¬ l.getD i Ch.none = x) (h : ¬ l.getD j Ch.none = x) : ∀ i, i < j + 1 → ¬ l.getD i Ch.none = x := fun i hi => by
  rcases Nat.lt_succ_iff_lt_or_eq.1 hi with h1 | h1
  · exact hno i h1
  · rw [h1]; exact h
def chB (l : List Ch) (x : Ch) : Bool := decide (x ∈ l)
set_option maxRecDepth 20000 in
set_option maxHeartbeats 4000000 in
theorem index_c (l : List Ch) (p : Option Addr) (c : Nat) (x : Ch) (hm : l.length ≤ 1099511627776) (w : World) (hr : Reads w p l.length c 3 (chV l)) : Calls Try.prog 75 #[.slice p l.length c, .agg #[.int .i64 (x.p), .int .i64 (x.b), .int .i64 (x.n)]] w fun e w' => ∃ r : Int, e = .returned (.int .i64 r) ∧ (0 ≤ r ↔ x ∈ l) ∧ S w' [Old w no] := by
 have H0 := S.old w
 refine enter 19 Try.func75 rfl rfl rfl ?_
 refine g_weak [(0, .slice p l.length c), (1, .agg #[.int .i64 (x.p), .int .i64 (x.b), .int .i64 (x.n)])] ⟨rfl, rfl, trivial⟩ ?_
 refine w_s ?_
 refine l_of (s_box H0 (wt0 rfl) rfl rfl rfl rfl ?_)
 intro g1 wq2 H3
 refine w_a ?_
 refine w_e ?_
 refine g_seq ?_
 refine w_s ?_
 refine w_m ?_
 refine w_v (v := .int .i64 ((l.length : Int))) (x_lenl rfl rfl Try.underlying37) ?_
 refine w_m ?_
 refine w_e ?_
 refine g_block ?_
 refine g_loop (ι := Nat) (fun j => [(0, .slice p l.length c), (3, .pointer (some ⟨g1, 0, none⟩)), (7, .int .i64 ((l.length : Int))), (8, .int .i64 ((j : Int)))]) (fun j wx => (j ≤ l.length) ∧ (∀ i, i < j → ¬ l.getD i Ch.none = x) ∧ S wx [Ob g1 (.cells #[.int .i64 (x.p), .int .i64 (x.b), .int .i64 (x.n)] 49 (0, 0)), Old w no]) (fun j => l.length - j) (0) ⟨rfl, rfl, rfl, rfl, trivial⟩ ⟨Nat.zero_le _, (fun i hi => absurd hi (Nat.not_lt_zero i)), H3⟩ ?_
 rintro j wq4 ⟨hj, hno, H5⟩
 refine g_weak [(0, .slice p l.length c), (3, .pointer (some ⟨g1, 0, none⟩)), (7, .int .i64 ((l.length : Int))), (8, .int .i64 ((j : Int)))] ⟨rfl, rfl, rfl, rfl, trivial⟩ ?_
 refine w_s ?_
 refine w_b ?_
 refine w_e ?_
 refine g_seq ?_
 by_cases hb6 : ((j : Int) : Int) < (l.length : Int)
 ·
  have hps : ∃ a, p = some a := ((H5.oldReads (k := 1) rfl hr).2.2 (by omega)).imp fun _ h => h.1
  refine g_cond_t rfl (decide_eq_true hb6) ?_
  refine g_skip ?_
  refine g_then ?_
  refine g_seq ?_
  refine g_block ?_
  refine w_s ?_
  refine w_r2 ?_
  refine w_e ?_
  refine g_seq ?_
  refine g_quiet (by kernel_rfl) (by kernel_rfl) H5 ?_
  refine q_val (v := .agg #[.int .i64 (x.p), .int .i64 (x.b), .int .i64 (x.n)]) (wt0 rfl) rfl rfl (fun wx H => x_loadA H 0 rfl rfl Try.underlying49 rfl sz49 rfl rfl rfl) ?_
  refine q_val (v := .slice p l.length c) (wt0 rfl) rfl rfl (fun wx H => x_move rfl rfl) ?_
  refine q_val (v := .int .i64 ((j : Int))) (wt0 rfl) rfl rfl (fun wx H => x_move rfl rfl) ?_
  refine q_val (v := .pointer ((p).map fun q => q.add (j * 3))) (wt0 rfl) rfl rfl (fun wx H => x_idxP j (hps) rfl rfl rfl Try.underlying37 sz49 (by omega)) ?_
  refine q_val (v := .agg #[.int .i64 ((l.getD (j) Ch.none).p), .int .i64 ((l.getD (j) Ch.none).b), .int .i64 ((l.getD (j) Ch.none).n)]) (wt0 rfl) rfl rfl (fun wx H => x_loadRA (vs := (l.getD (j) Ch.none).cellsL) j (H.oldReads (k := 1) rfl hr) (by omega) rfl rfl Try.underlying49 rfl sz49 (by rfl) (chV_at (by omega))) ?_
  refine q_val (v := .bool (decide (x = (l.getD (j) Ch.none)))) (wt0 rfl) rfl rfl (fun wx H => x_bin rfl rfl rfl (b_chE x (l.getD (j) Ch.none))) ?_
  refine q_nil (fun wq7 H8 => ?_)
  refine g_then ?_
  by_cases hb9 : x = (l.getD (j) Ch.none)
  ·
   refine g_cond_t rfl (decide_eq_true hb9) ?_
   refine w_s ?_
   refine w_r2 ?_
   refine w_e ?_
   refine g_weak [(4, .int .i64 ((j : Int)))] ⟨rfl, trivial⟩ ?_
   refine g_ret ?_
   refine g_in_ret ?_
   refine g_then_ret ?_
   refine g_then_ret ?_
   refine g_in_ret ?_
   refine g_then_ret ?_
   refine fin_ret [.tmp 4] [.int .i64 ((j : Int))] rfl ⟨rfl, trivial⟩ ?_
   exact ⟨_, rfl, ⟨fun _ => chin_here (by omega) hb9.symm, fun _ => Int.natCast_nonneg _⟩, H8.mask [false, true]⟩
  ·
   refine g_cond_f rfl (decide_eq_false hb9) ?_
   refine g_skip ?_
   refine g_in ?_
   refine g_then ?_
   refine g_region ?_
   refine w_b (v := .int .i64 ((j : Int) + 1)) (hb := (b_add (w64 (by omega)))) ?_
   refine w_m ?_
   refine w_e ?_
   refine g_round (i := (j)) (j + 1) ?_ ?_ ?_
   · exact ⟨rfl, rfl, rfl, rfl, trivial⟩
   · exact ⟨by omega, (chin_step hno (fun q => hb9 q.symm)), H8⟩
   · (try dsimp only); omega
 ·
  refine g_cond_f rfl (decide_eq_false hb6) ?_
  refine g_exit ?_
  refine g_then_exit ?_
  refine g_then_exit ?_
  refine g_in_hit ?_
  refine g_then ?_
  refine w_s ?_
  refine w_a ?_
  refine w_e ?_
  refine g_ret ?_
  refine fin_ret [.tmp 4] [.int .i64 (-1)] rfl ⟨rfl, trivial⟩ ?_
  exact ⟨-1, rfl, ⟨fun h => absurd h (by decide), fun h => absurd h (chin_none (fun i hi => hno i (by omega)))⟩, H5.mask [false, true]⟩
set_option maxRecDepth 20000 in
set_option maxHeartbeats 4000000 in
theorem contains_c (l : List Ch) (p : Option Addr) (c : Nat) (x : Ch) (hm : l.length ≤ 1099511627776) (w : World) (hr : Reads w p l.length c 3 (chV l)) : Calls Try.prog 53 #[.slice p l.length c, .agg #[.int .i64 (x.p), .int .i64 (x.b), .int .i64 (x.n)]] w fun e w' => e = .returned (.bool (chB l x)) ∧ S w' [Old w no] := by
 have H0 := S.old w
 refine enter 9 Try.func53 rfl rfl rfl ?_
 refine g_weak [(0, .slice p l.length c), (1, .agg #[.int .i64 (x.p), .int .i64 (x.b), .int .i64 (x.n)])] ⟨rfl, rfl, trivial⟩ ?_
 refine w_s ?_
 refine l_of (s_box H0 (wt0 rfl) rfl rfl rfl rfl ?_)
 intro g1 wq2 H3
 refine w_a ?_
 refine w_e ?_
 refine w_s ?_
 refine w_m ?_
 refine w_v (v := .agg #[.int .i64 (x.p), .int .i64 (x.b), .int .i64 (x.n)]) (x_loadA H3 0 rfl rfl Try.underlying49 rfl sz49 rfl rfl rfl) ?_
 refine l_of (s_call (wt0 rfl) (x_call' rfl rfl cl75) (index_c l p c x hm _ (H3.oldReads (k := 1) rfl hr)) ?_)
 rintro _ wq4 ⟨r, rfl, hri, H5⟩
 replace H5 : S wq4 [Ob g1 (.cells #[.int .i64 (x.p), .int .i64 (x.b), .int .i64 (x.n)] 49 (0, 0)), Old w no] := H3.absorb (new := []) H5
 refine b_ret rfl rfl ?_
 refine w_b ?_
 refine w_a ?_
 refine w_e ?_
 refine g_ret ?_
 refine fin_ret [.tmp 4] [.bool (decide ((0 : Int) ≤ r))] rfl ⟨rfl, trivial⟩ ?_
 exact ⟨by unfold chB; rw [decide_eq_decide.2 hri.symm]; rfl, H5.mask [false, true]⟩
end Go.Proofs.Ytdkfkdekiljcoaa
namespace Go.Proofs.Ytdkfkdekiljcoaa
open Go.RowKit

theorem inf3 : infO Try.prog 3 = some (some (.int .i64 0), 1, 8) := by kernel_rfl
theorem inf49 : infO Try.prog 49 = some (some (.agg #[.int .i64 0, .int .i64 0, .int .i64 0]), 3, 24) := by kernel_rfl
theorem zV_one (l : List Int) : (zV l).all (·.oneCell') = true := by
  unfold zV; rw [List.all_eq_true]; intro v hv
  obtain ⟨x, _, rfl⟩ := List.mem_map.1 hv; rfl
theorem chV_one (l : List Ch) : (chV l).all (·.oneCell') = true := by
  unfold chV; rw [List.all_eq_true]; intro v hv
  obtain ⟨x, _, h⟩ := List.mem_flatMap.1 hv
  unfold Ch.cellsL at h
  simp only [List.mem_cons, List.not_mem_nil, or_false] at h
  rcases h with rfl | rfl | rfl <;> rfl
set_option maxRecDepth 20000 in
set_option maxHeartbeats 4000000 in
theorem clone_i_s (l : List Int) (a : Addr) (c : Nat) (hm : l.length ≤ 1099511627776) (w : World) (hr : Reads w (some a) l.length c 1 (zV l)) : Calls Try.prog 25 #[.slice (some a) l.length c] w fun e w' => ∃ p' c', e = .returned (.slice p' l.length c') ∧ S w' ([Rw 3 1 p' l.length c' (zV l)] ++ [Old w no]) := by
 have H0 := S.old w
 refine enter 8 Try.func25 rfl rfl rfl ?_
 refine g_weak [(0, .slice (some a) l.length c)] ⟨rfl, trivial⟩ ?_
 refine w_s ?_
 refine w_a ?_
 refine w_e ?_
 refine g_seq ?_
 refine w_s ?_
 refine w_m ?_
 refine w_b (v := .bool false) (hb := (b_eqN (r := false) Try.underlying45 rfl)) ?_
 refine w_e ?_
 refine g_cond_f rfl rfl ?_
 refine g_skip ?_
 refine g_then ?_
 refine w_s ?_
 refine l_of (s_buildSlice0 H0 (wt0 rfl) rfl rfl rfl Try.underlying45 sz3 ?_)
 intro g1 wq2 H4
 have H3 : S wq2 [Rw 3 1 (some ⟨g1, 0, none⟩) 0 0 (zV []), Old w no] := H4.obRw (k := 0) (n := 0) (size := 1) rfl rfl (by decide)
 refine w_m ?_
 refine l_of (s_appendW (n := 0) (m := l.length) (sc := 0) (xs := zV []) (news := zV l) (p := (some ⟨g1, 0, none⟩)) (q := some a) H3 0 (wt0 rfl) rfl rfl rfl rfl rfl rfl Try.underlying45 inf3 rfl (by decide) (by decide) (H3.oldReads (k := 1) rfl hr) (zV_one l) (by omega) ?_)
 intro p5 c6 wq7 H8
 rw [Nat.zero_add] at H8 ⊢
 replace H8 : S wq7 [Rw 3 1 p5 l.length c6 (zV l), Old w no] := H8
 refine w_a ?_
 refine w_e ?_
 refine g_ret ?_
 refine fin_ret [.tmp 2] [.slice p5 l.length c6] rfl ⟨rfl, trivial⟩ ?_
 exact ⟨_, _, rfl, H8⟩
set_option maxRecDepth 20000 in
set_option maxHeartbeats 4000000 in
theorem clone_i_n (n c : Nat) (w : World) : Calls Try.prog 25 #[.slice none n c] w fun e w' => ∃ p' c', e = .returned (.slice p' 0 c') ∧ S w' ([Rw 3 1 p' 0 c' (zV [])] ++ [Old w no]) := by
 have H0 := S.old w
 refine enter 8 Try.func25 rfl rfl rfl ?_
 refine g_weak [(0, .slice none n c)] ⟨rfl, trivial⟩ ?_
 refine w_s ?_
 refine w_a ?_
 refine w_e ?_
 refine g_seq ?_
 refine w_s ?_
 refine w_m ?_
 refine w_b (v := .bool true) (hb := (b_eqN (r := true) Try.underlying45 rfl)) ?_
 refine w_e ?_
 refine g_cond_t rfl rfl ?_
 refine w_s ?_
 refine w_a ?_
 refine w_e ?_
 refine g_ret ?_
 refine g_then_ret ?_
 refine fin_ret [.tmp 2] [.slice none 0 0] rfl ⟨rfl, trivial⟩ ?_
 exact ⟨none, 0, rfl, H0.nilRw 3 1⟩
theorem clone_i (l : List Int) (p : Option Addr) (c : Nat) (hm : l.length ≤ 1099511627776) (w : World) (hr : Reads w p l.length c 1 (zV l)) : Calls Try.prog 25 #[.slice p l.length c] w fun e w' => ∃ p' c', e = .returned (.slice p' l.length c') ∧ S w' ([Rw 3 1 p' l.length c' (zV l)] ++ [Old w no]) := by
  cases p with
  | some a => exact clone_i_s l a c hm w hr
  | none =>
    have hl : l.length = 0 := by
      rcases Nat.eq_zero_or_pos l.length with h | h
      · exact h
      · obtain ⟨a, h2, _⟩ := hr.2.2 h; cases h2
    have hl2 : l = [] := List.eq_nil_of_length_eq_zero hl
    subst hl2
    exact clone_i_n 0 c w
set_option maxRecDepth 20000 in
set_option maxHeartbeats 4000000 in
theorem clone_c_s (l : List Ch) (a : Addr) (c : Nat) (hm : l.length ≤ 1099511627776) (w : World) (hr : Reads w (some a) l.length c 3 (chV l)) : Calls Try.prog 22 #[.slice (some a) l.length c] w fun e w' => ∃ p' c', e = .returned (.slice p' l.length c') ∧ S w' ([Rw 49 3 p' l.length c' (chV l)] ++ [Old w no]) := by
 have H0 := S.old w
 refine enter 8 Try.func22 rfl rfl rfl ?_
 refine g_weak [(0, .slice (some a) l.length c)] ⟨rfl, trivial⟩ ?_
 refine w_s ?_
 refine w_a ?_
 refine w_e ?_
 refine g_seq ?_
 refine w_s ?_
 refine w_m ?_
 refine w_b (v := .bool false) (hb := (b_eqN (r := false) Try.underlying37 rfl)) ?_
 refine w_e ?_
 refine g_cond_f rfl rfl ?_
 refine g_skip ?_
 refine g_then ?_
 refine w_s ?_
 refine l_of (s_buildSlice0 H0 (wt0 rfl) rfl rfl rfl Try.underlying37 sz49 ?_)
 intro g1 wq2 H4
 have H3 : S wq2 [Rw 49 3 (some ⟨g1, 0, none⟩) 0 0 (chV []), Old w no] := H4.obRw (k := 0) (n := 0) (size := 3) rfl rfl (by decide)
 refine w_m ?_
 refine l_of (s_appendW (n := 0) (m := l.length) (sc := 0) (xs := chV []) (news := chV l) (p := (some ⟨g1, 0, none⟩)) (q := some a) H3 0 (wt0 rfl) rfl rfl rfl rfl rfl rfl Try.underlying37 inf49 rfl (by decide) (by decide) (H3.oldReads (k := 1) rfl hr) (chV_one l) (by omega) ?_)
 intro p5 c6 wq7 H8
 rw [Nat.zero_add] at H8 ⊢
 replace H8 : S wq7 [Rw 49 3 p5 l.length c6 (chV l), Old w no] := H8
 refine w_a ?_
 refine w_e ?_
 refine g_ret ?_
 refine fin_ret [.tmp 2] [.slice p5 l.length c6] rfl ⟨rfl, trivial⟩ ?_
 exact ⟨_, _, rfl, H8⟩
set_option maxRecDepth 20000 in
set_option maxHeartbeats 4000000 in
theorem clone_c_n (n c : Nat) (w : World) : Calls Try.prog 22 #[.slice none n c] w fun e w' => ∃ p' c', e = .returned (.slice p' 0 c') ∧ S w' ([Rw 49 3 p' 0 c' (chV [])] ++ [Old w no]) := by
 have H0 := S.old w
 refine enter 8 Try.func22 rfl rfl rfl ?_
 refine g_weak [(0, .slice none n c)] ⟨rfl, trivial⟩ ?_
 refine w_s ?_
 refine w_a ?_
 refine w_e ?_
 refine g_seq ?_
 refine w_s ?_
 refine w_m ?_
 refine w_b (v := .bool true) (hb := (b_eqN (r := true) Try.underlying37 rfl)) ?_
 refine w_e ?_
 refine g_cond_t rfl rfl ?_
 refine w_s ?_
 refine w_a ?_
 refine w_e ?_
 refine g_ret ?_
 refine g_then_ret ?_
 refine fin_ret [.tmp 2] [.slice none 0 0] rfl ⟨rfl, trivial⟩ ?_
 exact ⟨none, 0, rfl, H0.nilRw 49 3⟩
theorem clone_c (l : List Ch) (p : Option Addr) (c : Nat) (hm : l.length ≤ 1099511627776) (w : World) (hr : Reads w p l.length c 3 (chV l)) : Calls Try.prog 22 #[.slice p l.length c] w fun e w' => ∃ p' c', e = .returned (.slice p' l.length c') ∧ S w' ([Rw 49 3 p' l.length c' (chV l)] ++ [Old w no]) := by
  cases p with
  | some a => exact clone_c_s l a c hm w hr
  | none =>
    have hl : l.length = 0 := by
      rcases Nat.eq_zero_or_pos l.length with h | h
      · exact h
      · obtain ⟨a, h2, _⟩ := hr.2.2 h; cases h2
    have hl2 : l = [] := List.eq_nil_of_length_eq_zero hl
    subst hl2
    exact clone_c_n 0 c w
end Go.Proofs.Ytdkfkdekiljcoaa
namespace Go.Proofs.Ytdkfkdekiljcoaa
open Go.RowKit

theorem cl37 : callable Try.prog 37 = true := by kernel_rfl
theorem ze3 : zeO Try.prog 3 = some (.int .i64 0) := by kernel_rfl
def extraB (k : Int) : Bool := inB [12, 13, 14, 15, 16] k
set_option maxRecDepth 20000 in
set_option maxHeartbeats 4000000 in
theorem tell_s (k : Int) (w : World) : Calls Try.prog 33 #[.int .i64 k] w fun e w' => e = .returned (.bool (tellB k)) ∧ S w' [Old w no] := by
 have H0 := S.old w
 refine enter 13 Try.func33 rfl rfl rfl ?_
 refine g_weak [(0, .int .i64 k)] ⟨rfl, trivial⟩ ?_
 refine w_s ?_
 refine w_a ?_
 refine w_e ?_
 refine w_s ?_
 refine w_m ?_
 refine w_b ?_
 refine w_m ?_
 by_cases hb1 : (k : Int) = 7
 ·
  refine w_n (decide_eq_true hb1) ?_
  refine w_n (decide_eq_true hb1) ?_
  refine w_v (v := .bool true) (x_pick_t rfl rfl (decide_eq_true hb1) rfl) ?_
  refine w_m ?_
  refine w_n rfl ?_
  refine w_n rfl ?_
  refine w_v (v := .bool true) (x_pick_t rfl rfl rfl rfl) ?_
  refine w_a ?_
  refine w_e ?_
  refine g_ret ?_
  refine fin_ret [.tmp 2] [.bool true] rfl ⟨rfl, trivial⟩ ?_
  exact ⟨by unfold tellB; simp [hb1]; rfl, H0.mask [true]⟩
 ·
  refine w_g (decide_eq_false hb1) xm ?_
  refine w_g (decide_eq_false hb1) (x_bin rfl rfl rfl b_eql) ?_
  refine w_v (v := .bool (decide ((k : Int) = 13))) (x_pick_f rfl rfl (decide_eq_false hb1) rfl) ?_
  refine w_m ?_
  by_cases hb2 : (k : Int) = 13
  ·
   refine w_n (decide_eq_true hb2) ?_
   refine w_n (decide_eq_true hb2) ?_
   refine w_v (v := .bool true) (x_pick_t rfl rfl (decide_eq_true hb2) rfl) ?_
   refine w_a ?_
   refine w_e ?_
   refine g_ret ?_
   refine fin_ret [.tmp 2] [.bool true] rfl ⟨rfl, trivial⟩ ?_
   exact ⟨by unfold tellB; simp [hb1, hb2]; rfl, H0.mask [true]⟩
  ·
   refine w_g (decide_eq_false hb2) xm ?_
   refine w_g (decide_eq_false hb2) (x_bin rfl rfl rfl b_eql) ?_
   refine w_v (v := .bool (decide ((k : Int) = 14))) (x_pick_f rfl rfl (decide_eq_false hb2) rfl) ?_
   refine w_a ?_
   refine w_e ?_
   refine g_ret ?_
   refine fin_ret [.tmp 2] [.bool (decide ((k : Int) = 14))] rfl ⟨rfl, trivial⟩ ?_
   exact ⟨by unfold tellB; simp [hb1, hb2]; rfl, H0.mask [true]⟩
set_option maxRecDepth 20000 in
set_option maxHeartbeats 4000000 in
theorem extra_s (k : Int) (w : World) : Calls Try.prog 32 #[.int .i64 k] w fun e w' => e = .returned (.bool (extraB k)) ∧ S w' [Old w no] := by
 have H0 := S.old w
 refine enter 6 Try.func32 rfl rfl rfl ?_
 refine g_weak [(0, .int .i64 k)] ⟨rfl, trivial⟩ ?_
 refine w_s ?_
 refine w_a ?_
 refine w_e ?_
 refine w_s ?_
 refine l_of (s_buildSlice H0 (wt0 rfl) rfl rfl rfl (vs := [.int .i64 12, .int .i64 13, .int .i64 14, .int .i64 15, .int .i64 16]) rfl Try.underlying45 sz3 ze3 rfl rfl (cells := #[.int .i64 12, .int .i64 13, .int .i64 14, .int .i64 15, .int .i64 16]) (by kernel_rfl) ?_)
 intro g1 wq2 H3
 refine w_m ?_
 refine l_of (s_call0 H3 (wt0 rfl) (x_call' rfl rfl cl37) (contains_i [12, 13, 14, 15, 16] (some ⟨g1, 0, none⟩) 5 k (by decide) _ (reads_ob (n := 5) H3 (k := 0) rfl rfl)) rfl rfl ?_)
 intro wq4 H5
 refine w_a ?_
 refine w_e ?_
 refine g_ret ?_
 refine fin_ret [.tmp 2] [.bool ((extraB k))] rfl ⟨rfl, trivial⟩ ?_
 exact ⟨rfl, H5.mask [false, true]⟩
end Go.Proofs.Ytdkfkdekiljcoaa
namespace Go.Proofs.Ytdkfkdekiljcoaa
open Go.RowKit

theorem cl77 : callable Try.prog 77 = true := by kernel_rfl
/-- Where a choice is first. -/
def FirstAt (l : List Ch) (x : Ch) (r : Int) : Prop := (r = -1 ∧ ¬ x ∈ l) ∨ ∃ i : Nat, r = (i : Int) ∧ i < l.length ∧ l.getD i Ch.none = x ∧ ∀ j, j < i → ¬ l.getD j Ch.none = x
set_option maxRecDepth 20000 in
set_option maxHeartbeats 4000000 in
theorem drop1_s (tb : Nat) (x y : Ch) (w : World) (HS : S w [Ob tb (.cells #[.int .i64 (x.p), .int .i64 (x.b), .int .i64 (x.n)] 49 (0, 0))]) : Calls Try.prog 77 #[.agg #[.int .i64 (y.p), .int .i64 (y.b), .int .i64 (y.n)], .pointer (some ⟨tb, 0, none⟩)] w fun e w' => e = .returned (.bool (decide (y = x))) ∧ S w' ([Ob tb (.cells #[.int .i64 (x.p), .int .i64 (x.b), .int .i64 (x.n)] 49 (0, 0))] ++ [Old w (fps [Ob tb (.cells #[.int .i64 (x.p), .int .i64 (x.b), .int .i64 (x.n)] 49 (0, 0))])]) := by
 have H0 := HS.beginI
 refine enter 7 Try.func77 rfl rfl rfl ?_
 refine g_weak [(0, .agg #[.int .i64 (y.p), .int .i64 (y.b), .int .i64 (y.n)]), (1, .pointer (some ⟨tb, 0, none⟩))] ⟨rfl, rfl, trivial⟩ ?_
 refine w_s ?_
 refine l_of (s_box H0 (wt0 rfl) rfl rfl rfl rfl ?_)
 intro g1 wq2 H3
 refine w_a ?_
 refine w_e ?_
 refine w_s ?_
 refine w_v (v := .agg #[.int .i64 (y.p), .int .i64 (y.b), .int .i64 (y.n)]) (x_loadA H3 0 rfl rfl Try.underlying49 rfl sz49 rfl rfl rfl) ?_
 refine w_v (v := .agg #[.int .i64 (x.p), .int .i64 (x.b), .int .i64 (x.n)]) (x_loadA H3 1 rfl rfl Try.underlying49 rfl sz49 rfl rfl rfl) ?_
 refine w_b (v := .bool (decide (y = x))) (hb := (b_chE y x)) ?_
 refine w_a ?_
 refine w_e ?_
 refine g_ret ?_
 refine fin_ret [.tmp 3] [.bool (decide (y = x))] rfl ⟨rfl, trivial⟩ ?_
 exact ⟨rfl, H3.takes [1, 2] (by decide)⟩
set_option maxRecDepth 20000 in
set_option maxHeartbeats 4000000 in
theorem indexF_s (tb : Nat) (x : Ch) (l : List Ch) (p : Option Addr) (c : Nat) (hm : l.length ≤ 1099511627776) (w : World) (HS : S w [Ob tb (.cells #[.int .i64 (x.p), .int .i64 (x.b), .int .i64 (x.n)] 49 (0, 0)), Rw 49 3 p l.length c (chV l)]) : Calls Try.prog 79 #[.slice p l.length c, .func (.func 77) #[] #[.pointer (some ⟨tb, 0, none⟩)]] w fun e w' => ∃ r : Int, e = .returned (.int .i64 r) ∧ FirstAt l x r ∧ S w' ([Ob tb (.cells #[.int .i64 (x.p), .int .i64 (x.b), .int .i64 (x.n)] 49 (0, 0)), Rw 49 3 p l.length c (chV l)] ++ [Old w (fps [Ob tb (.cells #[.int .i64 (x.p), .int .i64 (x.b), .int .i64 (x.n)] 49 (0, 0)), Rw 49 3 p l.length c (chV l)])]) := by
 have H0 := HS.beginI
 refine enter 19 Try.func79 rfl rfl rfl ?_
 refine g_weak [(0, .slice p l.length c), (1, .func (.func 77) #[] #[.pointer (some ⟨tb, 0, none⟩)])] ⟨rfl, rfl, trivial⟩ ?_
 refine w_s ?_
 refine w_a ?_
 refine w_e ?_
 refine g_seq ?_
 refine w_s ?_
 refine w_m ?_
 refine w_v (v := .int .i64 ((l.length : Int))) (x_lenl rfl rfl Try.underlying37) ?_
 refine w_m ?_
 refine w_e ?_
 refine g_block ?_
 refine g_loop (ι := Nat) (fun j => [(0, .slice p l.length c), (1, .func (.func 77) #[] #[.pointer (some ⟨tb, 0, none⟩)]), (7, .int .i64 ((l.length : Int))), (8, .int .i64 ((j : Int)))]) (fun j wx => (j ≤ l.length) ∧ (∀ i, i < j → ¬ l.getD i Ch.none = x) ∧ S wx [Ob tb (.cells #[.int .i64 (x.p), .int .i64 (x.b), .int .i64 (x.n)] 49 (0, 0)), Rw 49 3 p l.length c (chV l), Old w (fps [Ob tb (.cells #[.int .i64 (x.p), .int .i64 (x.b), .int .i64 (x.n)] 49 (0, 0)), Rw 49 3 p l.length c (chV l)])]) (fun j => l.length - j) (0) ⟨rfl, rfl, rfl, rfl, trivial⟩ ⟨Nat.zero_le _, (fun i hi => absurd hi (Nat.not_lt_zero i)), (H0.takes [0, 1, 2] (by decide))⟩ ?_
 rintro j wq1 ⟨hj, hno, H2⟩
 refine g_weak [(0, .slice p l.length c), (1, .func (.func 77) #[] #[.pointer (some ⟨tb, 0, none⟩)]), (7, .int .i64 ((l.length : Int))), (8, .int .i64 ((j : Int)))] ⟨rfl, rfl, rfl, rfl, trivial⟩ ?_
 refine w_s ?_
 refine w_b ?_
 refine w_e ?_
 refine g_seq ?_
 by_cases hb3 : ((j : Int) : Int) < (l.length : Int)
 ·
  refine g_cond_t rfl (decide_eq_true hb3) ?_
  refine g_skip ?_
  refine g_then ?_
  refine g_seq ?_
  refine g_block ?_
  refine w_s ?_
  refine w_r2 ?_
  refine w_e ?_
  refine w_s ?_
  refine w_r3 ?_
  refine w_v (v := .pointer ((p).map fun q => q.add (j * 3))) (x_idxR j (H2.rwReads (k := 1) rfl) rfl rfl rfl Try.underlying37 sz49 (by omega)) ?_
  refine w_v (v := .agg #[.int .i64 ((l.getD (j) Ch.none).p), .int .i64 ((l.getD (j) Ch.none).b), .int .i64 ((l.getD (j) Ch.none).n)]) (x_loadRA (vs := (l.getD (j) Ch.none).cellsL) j (H2.rwReads (k := 1) rfl) (by omega) rfl rfl Try.underlying49 rfl sz49 (by rfl) (chV_at (by omega))) ?_
  refine l_of (s_call (wt0 rfl) (x_call rfl rfl rfl cl77) (drop1_s tb x (l.getD (j) Ch.none) _ (H2.takes [0] (by decide))) ?_)
  rintro _ wq4 ⟨rfl, H5⟩
  replace H5 : S wq4 [Ob tb (.cells #[.int .i64 (x.p), .int .i64 (x.b), .int .i64 (x.n)] 49 (0, 0)), Rw 49 3 p l.length c (chV l), Old w (fps [Ob tb (.cells #[.int .i64 (x.p), .int .i64 (x.b), .int .i64 (x.n)] 49 (0, 0)), Rw 49 3 p l.length c (chV l)])] := by have h := H2.absorbI [0] H5; exact h
  refine b_ret rfl rfl ?_
  refine w_e ?_
  by_cases hb6 : (l.getD (j) Ch.none) = x
  ·
   refine g_cond_t rfl (decide_eq_true hb6) ?_
   refine w_s ?_
   refine w_r2 ?_
   refine w_e ?_
   refine g_weak [(4, .int .i64 ((j : Int)))] ⟨rfl, trivial⟩ ?_
   refine g_ret ?_
   refine g_in_ret ?_
   refine g_then_ret ?_
   refine g_then_ret ?_
   refine g_in_ret ?_
   refine g_then_ret ?_
   refine fin_ret [.tmp 4] [.int .i64 ((j : Int))] rfl ⟨rfl, trivial⟩ ?_
   exact ⟨_, rfl, .inr ⟨j, rfl, by omega, hb6, hno⟩, (H5.takes [0, 1, 2] (by decide))⟩
  ·
   refine g_cond_f rfl (decide_eq_false hb6) ?_
   refine g_skip ?_
   refine g_in ?_
   refine g_then ?_
   refine g_region ?_
   refine w_b (v := .int .i64 ((j : Int) + 1)) (hb := (b_add (w64 (by omega)))) ?_
   refine w_m ?_
   refine w_e ?_
   refine g_round (i := (j)) (j + 1) ?_ ?_ ?_
   · exact ⟨rfl, rfl, rfl, rfl, trivial⟩
   · exact ⟨by omega, (chin_step hno hb6), (H5.takes [0, 1, 2] (by decide))⟩
   · (try dsimp only); omega
 ·
  refine g_cond_f rfl (decide_eq_false hb3) ?_
  refine g_exit ?_
  refine g_then_exit ?_
  refine g_then_exit ?_
  refine g_in_hit ?_
  refine g_then ?_
  refine w_s ?_
  refine w_a ?_
  refine w_e ?_
  refine g_ret ?_
  refine fin_ret [.tmp 4] [.int .i64 (-1)] rfl ⟨rfl, trivial⟩ ?_
  exact ⟨-1, rfl, .inl ⟨rfl, chin_none (fun i hi => hno i (by omega))⟩, (H2.takes [0, 1, 2] (by decide))⟩
end Go.Proofs.Ytdkfkdekiljcoaa
namespace Go.Proofs.Ytdkfkdekiljcoaa
open Go.RowKit

def dropS (l : List Ch) (x : Ch) : List Ch := l.filter (fun y => decide (¬ y = x))
theorem drop_none {l : List Ch} {x : Ch} (h : ¬ x ∈ l) : dropS l x = l := by
  unfold dropS
  rw [List.filter_eq_self]
  intro y hy
  exact decide_eq_true (fun e => h (e ▸ hy))
theorem drop_len (l : List Ch) (x : Ch) : (dropS l x).length ≤ l.length := List.length_filter_le _ _
theorem drop_next {l : List Ch} {x : Ch} {j : Nat} (h : j < l.length) : dropS (l.take (j + 1)) x = dropS (l.take j) x ++ (if l.getD j Ch.none = x then [] else [l.getD j Ch.none]) := by
  unfold dropS
  rw [List.take_succ_eq_append_getElem h, List.filter_append, List.getD_eq_getElem?_getD, List.getElem?_eq_getElem h]
  congr 1
  show List.filter _ [l[j]] = if l[j] = x then [] else [l[j]]
  by_cases e : l[j] = x
  · rw [if_pos e]; simp [e]
  · rw [if_neg e]; simp [e]
theorem drop_first {l : List Ch} {x : Ch} {i : Nat} (hi : i < l.length) (he : l.getD i Ch.none = x) (hno : ∀ j, j < i → ¬ l.getD j Ch.none = x) : dropS (l.take (i + 1)) x = l.take i := by
  rw [drop_next hi, if_pos he, List.append_nil]
  unfold dropS
  rw [List.filter_eq_self]
  intro y hy
  obtain ⟨j, hj, hjy⟩ := List.getElem_of_mem hy
  have hj2 : j < i := by rw [List.length_take] at hj; omega
  refine decide_eq_true (fun e => hno j hj2 ?_)
  rw [List.getElem_take] at hjy
  rw [List.getD_eq_getElem?_getD, List.getElem?_eq_getElem (by omega)]
  exact hjy.trans e
theorem chV_app (a b : List Ch) : chV (a ++ b) = chV a ++ chV b := by unfold chV; rw [List.flatMap_append]
theorem chV_cons (a : Ch) (b : List Ch) : chV (a :: b) = a.cellsL ++ chV b := by unfold chV; rw [List.flatMap_cons]
theorem chV_take : ∀ (l : List Ch) (i : Nat), (chV l).take (i * 3) = chV (l.take i)
  | l, 0 => by simp [chV]
  | [], i + 1 => by simp [chV]
  | a :: l, i + 1 => by
    rw [List.take_succ_cons, chV_cons, chV_cons, show (i + 1) * 3 = a.cellsL.length + i * 3 from by show (i + 1) * 3 = 3 + i * 3; omega, List.take_length_add_append, chV_take l i]
theorem chV_drop : ∀ (l : List Ch) (i : Nat), (chV l).drop (i * 3) = chV (l.drop i)
  | l, 0 => by simp
  | [], i + 1 => by simp [chV]
  | a :: l, i + 1 => by
    rw [List.drop_succ_cons, chV_cons, show (i + 1) * 3 = a.cellsL.length + i * 3 from by show (i + 1) * 3 = 3 + i * 3; omega, List.drop_length_add_append, chV_drop l i]
theorem chV_set {l : List Ch} {i : Nat} (y : Ch) (h : i < l.length) : (chV l).take (i * 3) ++ y.cellsL ++ (chV l).drop (i * 3 + 3) = chV (l.set i y) := by
  rw [show i * 3 + 3 = (i + 1) * 3 from by omega, chV_take, chV_drop, List.set_eq_take_append_cons_drop, if_pos h, chV_app, chV_cons, List.append_assoc]
theorem del_put {l cur : List Ch} {x : Ch} {i j : Nat} (hl : cur.length = l.length) (hj : j < l.length) (hij : i < j) (hp : cur.take i = dropS (l.take j) x) (hs : cur.drop j = l.drop j) (hne : ¬ cur.getD j Ch.none = x) :
    (cur.set i (cur.getD j Ch.none)).take (i + 1) = dropS (l.take (j + 1)) x ∧ (cur.set i (cur.getD j Ch.none)).drop (j + 1) = l.drop (j + 1) := by
  have hg : cur.getD j Ch.none = l.getD j Ch.none := by
    have := congrArg (fun q => q[0]?) hs
    simp only [List.getElem?_drop, Nat.add_zero] at this
    rw [List.getD_eq_getElem?_getD, List.getD_eq_getElem?_getD, this]
  constructor
  · rw [drop_next hj, if_neg (by rw [← hg]; exact hne), ← hp, ← hg]
    rw [List.take_succ_eq_append_getElem (by simp; omega), List.take_set_of_le (Nat.le_refl _), List.getElem_set_self]
  · rw [List.drop_set_of_lt (by omega)]
    have := congrArg (fun q => q.drop 1) hs
    simpa [List.drop_drop] using this
theorem del_skip {l cur : List Ch} {x : Ch} {i j : Nat} (hj : j < l.length) (hp : cur.take i = dropS (l.take j) x) (hs : cur.drop j = l.drop j) (he : cur.getD j Ch.none = x) :
    cur.take i = dropS (l.take (j + 1)) x ∧ cur.drop (j + 1) = l.drop (j + 1) := by
  have hg : cur.getD j Ch.none = l.getD j Ch.none := by
    have := congrArg (fun q => q[0]?) hs
    simp only [List.getElem?_drop, Nat.add_zero] at this
    rw [List.getD_eq_getElem?_getD, List.getD_eq_getElem?_getD, this]
  constructor
  · rw [drop_next hj, if_pos (by rw [← hg]; exact he), List.append_nil, hp]
  · have := congrArg (fun q => q.drop 1) hs
    simpa [List.drop_drop] using this
end Go.Proofs.Ytdkfkdekiljcoaa
namespace Go.Proofs.Ytdkfkdekiljcoaa
open Go.RowKit

theorem cl79 : callable Try.prog 79 = true := by kernel_rfl
theorem ze49 : zeO Try.prog 49 = some (.agg #[.int .i64 0, .int .i64 0, .int .i64 0]) := by kernel_rfl
theorem ex_cast {P : Program} {N : Nat} {f : Fr} {ds : List Deferred} {w w' : World} {o : Oper} {v v' : Value} (h : Ex P N f ds o w v w') (e : v = v') : Ex P N f ds o w v' w' := e ▸ h
theorem cutP_zero (p : Option Addr) (c size : Nat) : cutP p 0 c size = p := by
  unfold cutP
  split
  · rfl
  · cases p with
    | none => rfl
    | some a => rw [Option.map_some, Nat.zero_mul, show a.add 0 = a from by unfold Addr.add; split <;> simp_all]
set_option maxRecDepth 20000 in
set_option maxHeartbeats 4000000 in
theorem delF_s (tb : Nat) (x : Ch) (l : List Ch) (p : Option Addr) (c : Nat) (hm : l.length ≤ 1099511627776) (w : World) (HS : S w [Ob tb (.cells #[.int .i64 (x.p), .int .i64 (x.b), .int .i64 (x.n)] 49 (0, 0)), Rw 49 3 p l.length c (chV l)]) : Calls Try.prog 76 #[.slice p l.length c, .func (.func 77) #[] #[.pointer (some ⟨tb, 0, none⟩)]] w fun e w' => e = .returned (.slice p (dropS l x).length c) ∧ S w' ([Ob tb (.cells #[.int .i64 (x.p), .int .i64 (x.b), .int .i64 (x.n)] 49 (0, 0)), Rw 49 3 p (dropS l x).length c (chV (dropS l x))] ++ [Old w (fps [Ob tb (.cells #[.int .i64 (x.p), .int .i64 (x.b), .int .i64 (x.n)] 49 (0, 0)), Rw 49 3 p l.length c (chV l)])]) := by
 have H0 := HS.beginI
 refine enter 42 Try.func76 rfl rfl rfl ?_
 refine g_weak [(0, .slice p l.length c), (1, .func (.func 77) #[] #[.pointer (some ⟨tb, 0, none⟩)])] ⟨rfl, rfl, trivial⟩ ?_
 refine w_s ?_
 refine w_a ?_
 refine w_e ?_
 refine w_s ?_
 refine w_r2 ?_
 refine l_of (s_call (wt0 rfl) (x_call' rfl rfl cl79) (indexF_s tb x l p c hm _ (H0.takes [0, 1] (by decide))) ?_)
 rintro _ wq1 ⟨r0, rfl, hfa, H2⟩
 replace H2 : S wq1 [Ob tb (.cells #[.int .i64 (x.p), .int .i64 (x.b), .int .i64 (x.n)] 49 (0, 0)), Rw 49 3 p l.length c (chV l), Old w (fps [Ob tb (.cells #[.int .i64 (x.p), .int .i64 (x.b), .int .i64 (x.n)] 49 (0, 0)), Rw 49 3 p l.length c (chV l)])] := by have h := H0.absorbI [0, 1] H2; exact h
 refine b_ret rfl rfl ?_
 refine w_a ?_
 refine w_e ?_
 refine g_seq ?_
 refine w_s ?_
 refine w_m ?_
 refine w_b ?_
 refine w_e ?_
 by_cases hb3 : (r0 : Int) = -1
 ·
  refine g_cond_t rfl (decide_eq_true hb3) ?_
  refine w_s ?_
  refine w_r2 ?_
  refine w_e ?_
  refine g_ret ?_
  refine g_then_ret ?_
  refine fin_ret [.tmp 4] [.slice p l.length c] rfl ⟨rfl, trivial⟩ ?_
  have hd : dropS l x = l := drop_none (by rcases hfa with q | ⟨i, q, _⟩; exact q.2; have := hb3; omega)
  exact ⟨by rw [hd]; rfl, by rw [hd]; exact (H2.takes [0, 1, 2] (by decide))⟩
 ·
  obtain ⟨i0, rfl, hi0, he0, hno⟩ := hfa.resolve_left (fun q => hb3 q.1)
  refine g_cond_f rfl (decide_eq_false hb3) ?_
  refine g_skip ?_
  refine g_then ?_
  refine g_seq ?_
  refine w_s ?_
  refine w_m ?_
  refine w_b (v := .int .i64 (((i0 + 1 : Nat) : Int))) (hb := (b_addN (a := i0) (b := 1) (by omega))) ?_
  refine w_a ?_
  refine w_e ?_
  refine g_block ?_
  refine g_loop (ι := Nat × Nat × List Ch) (fun (i, j, cur) => [(0, .slice p l.length c), (1, .func (.func 77) #[] #[.pointer (some ⟨tb, 0, none⟩)]), (5, .int .i64 ((i : Int))), (6, .int .i64 ((j : Int)))]) (fun (i, j, cur) wx => (cur.length = l.length) ∧ (i < j) ∧ (j ≤ l.length) ∧ (cur.take i = dropS (l.take j) x) ∧ (cur.drop j = l.drop j) ∧ S wx [Ob tb (.cells #[.int .i64 (x.p), .int .i64 (x.b), .int .i64 (x.n)] 49 (0, 0)), Rw 49 3 p l.length c (chV cur), Old w (fps [Ob tb (.cells #[.int .i64 (x.p), .int .i64 (x.b), .int .i64 (x.n)] 49 (0, 0)), Rw 49 3 p l.length c (chV l)])]) (fun (i, j, cur) => l.length - j) (i0, (i0 + 1), l) ⟨rfl, rfl, rfl, rfl, trivial⟩ ⟨rfl, Nat.lt_succ_self _, hi0, (drop_first hi0 he0 hno).symm, rfl, (H2.takes [0, 1, 2] (by decide))⟩ ?_
  rintro ⟨i, j, cur⟩ wq4 ⟨hcl, hij, hj, hp, hs, H5⟩
  refine g_weak [(0, .slice p l.length c), (1, .func (.func 77) #[] #[.pointer (some ⟨tb, 0, none⟩)]), (5, .int .i64 ((i : Int))), (6, .int .i64 ((j : Int)))] ⟨rfl, rfl, rfl, rfl, trivial⟩ ?_
  refine g_seq ?_
  refine w_s ?_
  refine w_r2 ?_
  refine w_v (v := .int .i64 ((l.length : Int))) (x_lenl rfl rfl Try.underlying37) ?_
  refine w_b ?_
  refine w_e ?_
  by_cases hb6 : ((j : Int) : Int) < (l.length : Int)
  ·
   refine g_cond_t rfl (decide_eq_true hb6) ?_
   refine g_skip ?_
   refine g_then ?_
   refine g_seq ?_
   refine g_block ?_
   refine w_s ?_
   refine w_r2 ?_
   refine w_v (v := .pointer ((p).map fun q => q.add (j * 3))) (x_idxR j (H5.rwReads (k := 1) rfl) rfl rfl rfl Try.underlying37 sz49 (by omega)) ?_
   refine w_v (v := .agg #[.int .i64 ((cur.getD (j) Ch.none).p), .int .i64 ((cur.getD (j) Ch.none).b), .int .i64 ((cur.getD (j) Ch.none).n)]) (x_loadRA (vs := (cur.getD (j) Ch.none).cellsL) j (H5.rwReads (k := 1) rfl) (by omega) rfl rfl Try.underlying49 rfl sz49 (by rfl) (chV_at (by omega))) ?_
   refine l_of (s_alloc H5 (wt0 rfl) rfl rfl rfl ze49 ?_)
   intro g7 wq8 H9
   refine l_of (w_st #[.int .i64 ((cur.getD (j) Ch.none).p), .int .i64 ((cur.getD (j) Ch.none).b), .int .i64 ((cur.getD (j) Ch.none).n)] H9 0 ?_)
   intro wq10 H11
   refine w_e ?_
   refine w_s ?_
   refine w_m ?_
   refine w_v (v := .agg #[.int .i64 ((cur.getD (j) Ch.none).p), .int .i64 ((cur.getD (j) Ch.none).b), .int .i64 ((cur.getD (j) Ch.none).n)]) (x_loadA H11 0 rfl rfl Try.underlying49 rfl sz49 rfl rfl rfl) ?_
   refine l_of (s_call (wt0 rfl) (x_call rfl rfl rfl cl77) (drop1_s tb x (cur.getD (j) Ch.none) _ (H11.takes [1] (by decide))) ?_)
   rintro _ wq12 ⟨rfl, H13⟩
   replace H13 : S wq12 [Ob tb (.cells #[.int .i64 (x.p), .int .i64 (x.b), .int .i64 (x.n)] 49 (0, 0)), Ob g7 (.cells #[.int .i64 ((cur.getD (j) Ch.none).p), .int .i64 ((cur.getD (j) Ch.none).b), .int .i64 ((cur.getD (j) Ch.none).n)] 49 (0, 0)), Rw 49 3 p l.length c (chV cur), Old w (fps [Ob tb (.cells #[.int .i64 (x.p), .int .i64 (x.b), .int .i64 (x.n)] 49 (0, 0)), Rw 49 3 p l.length c (chV l)])] := by have h := H11.absorbI [1] H13; exact h
   refine b_ret rfl rfl ?_
   refine w_v (v := .bool (!decide ((cur.getD (j) Ch.none) = x))) (x_not (b := decide ((cur.getD (j) Ch.none) = x)) rfl rfl) ?_
   refine w_e ?_
   by_cases hb14 : (cur.getD (j) Ch.none) = x
   ·
    refine g_cond_f rfl (nf hb14) ?_
    refine g_skip ?_
    refine g_in ?_
    refine g_then ?_
    refine g_weak [(0, .slice p l.length c), (1, .func (.func 77) #[] #[.pointer (some ⟨tb, 0, none⟩)]), (5, .int .i64 ((i : Int))), (6, .int .i64 ((j : Int)))] ⟨rfl, rfl, rfl, rfl, trivial⟩ ?_
    refine g_region ?_
    refine w_m ?_
    refine w_b (v := .int .i64 (((j + 1 : Nat) : Int))) (hb := (b_addN (a := j) (b := 1) (by omega))) ?_
    refine w_a ?_
    refine w_e ?_
    refine g_round (i := (i, j, cur)) (i, j + 1, cur) ?_ ?_ ?_
    · exact ⟨rfl, rfl, rfl, rfl, trivial⟩
    · exact ⟨by omega, by omega, by omega, (del_skip (by omega) hp hs hb14).1, (del_skip (by omega) hp hs hb14).2, (H13.takes [0, 2, 3] (by decide))⟩
    · (try dsimp only); omega
   ·
    refine g_cond_t rfl (nt hb14) ?_
    refine w_s ?_
    refine w_r2 ?_
    refine w_v (v := .agg #[.int .i64 ((cur.getD (j) Ch.none).p), .int .i64 ((cur.getD (j) Ch.none).b), .int .i64 ((cur.getD (j) Ch.none).n)]) (x_loadA H13 1 rfl rfl Try.underlying49 rfl sz49 rfl rfl rfl) ?_
    refine w_v (v := .pointer ((p).map fun q => q.add (i * 3))) (x_idxR i (H13.rwReads (k := 2) rfl) rfl rfl rfl Try.underlying37 sz49 (by omega)) ?_
    refine l_of (s_storeW (j := i) H13 2 (wt0 rfl) rfl rfl rfl rfl rfl sz49 rfl rfl (by omega) ?_)
    intro wq15 H16
    replace H16 : S wq15 [Ob tb (.cells #[.int .i64 (x.p), .int .i64 (x.b), .int .i64 (x.n)] 49 (0, 0)), Ob g7 (.cells #[.int .i64 ((cur.getD (j) Ch.none).p), .int .i64 ((cur.getD (j) Ch.none).b), .int .i64 ((cur.getD (j) Ch.none).n)] 49 (0, 0)), Rw 49 3 p l.length c (chV (cur.set i (cur.getD j Ch.none))), Old w (fps [Ob tb (.cells #[.int .i64 (x.p), .int .i64 (x.b), .int .i64 (x.n)] 49 (0, 0)), Rw 49 3 p l.length c (chV l)])] := by have h9 := H16; rw [← chV_set (cur.getD j Ch.none) (by omega)]; exact h9
    refine w_e ?_
    refine g_weak [(0, .slice p l.length c), (1, .func (.func 77) #[] #[.pointer (some ⟨tb, 0, none⟩)]), (5, .int .i64 ((i : Int))), (6, .int .i64 ((j : Int)))] ⟨rfl, rfl, rfl, rfl, trivial⟩ ?_
    refine g_region ?_
    refine w_m ?_
    refine w_b (v := .int .i64 (((i + 1 : Nat) : Int))) (hb := (b_addN (a := i) (b := 1) (by omega))) ?_
    refine w_a ?_
    refine g_nil ?_
    refine g_in ?_
    refine g_then ?_
    refine g_region ?_
    refine w_m ?_
    refine w_b (v := .int .i64 (((j + 1 : Nat) : Int))) (hb := (b_addN (a := j) (b := 1) (by omega))) ?_
    refine w_a ?_
    refine w_e ?_
    refine g_round (i := (i, j, cur)) (i + 1, j + 1, (cur.set i (cur.getD j Ch.none))) ?_ ?_ ?_
    · exact ⟨rfl, rfl, rfl, rfl, trivial⟩
    · exact ⟨(by rw [List.length_set]; exact hcl), by omega, by omega, (del_put hcl (by omega) hij hp hs hb14).1, (del_put hcl (by omega) hij hp hs hb14).2, (H16.takes [0, 2, 3] (by decide))⟩
    · (try dsimp only); omega
  ·
   refine g_cond_f rfl (decide_eq_false hb6) ?_
   refine g_exit ?_
   refine g_then_exit ?_
   refine g_then_exit ?_
   refine g_in_hit ?_
   refine g_then ?_
   refine w_s ?_
   refine w_r2 ?_
   refine w_v (v := .slice (cutP p i c 3) (l.length - i) (c - i)) (x_cut i rfl rfl rfl Try.underlying37 sz49 (by omega)) ?_
   refine l_of (s_clear (i := i) H5 1 (wt0 rfl) rfl rfl rfl rfl Try.underlying37 ze49 rfl rfl (by decide) (by omega) ?_)
   intro wq17 H18
   replace H18 : S wq17 [Ob tb (.cells #[.int .i64 (x.p), .int .i64 (x.b), .int .i64 (x.n)] 49 (0, 0)), Rw 49 3 p i c (chV (cur.take i)), Old w (fps [Ob tb (.cells #[.int .i64 (x.p), .int .i64 (x.b), .int .i64 (x.n)] 49 (0, 0)), Rw 49 3 p l.length c (chV l)])] := by have h9 := H18; rw [← chV_take]; exact h9
   refine w_e ?_
   refine w_s ?_
   refine w_r2 ?_
   have hic := (H18.rwReads (k := 1) rfl).2.1
   refine w_v (v := .slice p i c) (ex_cast (x_sliceH i rfl rfl rfl Try.underlying37 sz49 ⟨rfl, hic⟩) (by rw [cutP_zero])) ?_
   refine w_a ?_
   refine w_e ?_
   refine g_weak [(4, .slice p i c)] ⟨rfl, trivial⟩ ?_
   refine g_ret ?_
   refine fin_ret [.tmp 4] [.slice p i c] rfl ⟨rfl, trivial⟩ ?_
   have hjl : j = l.length := by omega
   have hd : dropS l x = cur.take i := by rw [hp, hjl, List.take_length]
   have hdl : (cur.take i).length = i := by rw [List.length_take]; omega
   exact ⟨by rw [hd, hdl]; rfl, by rw [hd, hdl]; exact (H18.takes [0, 1, 2] (by decide))⟩
end Go.Proofs.Ytdkfkdekiljcoaa
namespace Go.Proofs.Ytdkfkdekiljcoaa
open Go.RowKit

/-- Has, of a field that is valid. -/
def hasB (m : Nat) (s : ByteArray) (i : Int) : Bool := decide (0 ≤ i ∧ i < (m : Int)) && bitA s i.toNat
def hasE (m : Nat) (i : Int) : Int := if 0 ≤ i ∧ i < (m : Int) then 0 else 7
theorem has_in {m : Nat} {s : ByteArray} {i : Int} (h : 0 ≤ i ∧ i < (m : Int)) : hasB m s i = bitA s i.toNat ∧ hasE m i = 0 := ⟨by unfold hasB; rw [decide_eq_true h]; rfl, if_pos h⟩
theorem has_out {m : Nat} {s : ByteArray} {i : Int} (h : ¬ (0 ≤ i ∧ i < (m : Int))) : hasB m s i = false ∧ hasE m i = 7 := ⟨by unfold hasB; rw [decide_eq_false h]; rfl, if_neg h⟩
end Go.Proofs.Ytdkfkdekiljcoaa
