import Derived.Test.YtpbjekdjebjbkaaGreatGg
import Derived.Test.YtpbjekdjebjbkaaGreatSel
import Derived.Test.YtpbjekdjebjbkaaGreatShelf
import Derived.Lib.ItoaLen
set_option linter.unusedSimpArgs false
set_option linter.unusedVariables false
namespace Go.Proofs.YtpbjekdjebjbkaaGreat
open Go.RowKit Go.Sort

/-! ## Texts in their order; the least of texts; numerals; a table of the program's that lies in the old world -/
theorem less_cmp : ∀ a b : List UInt8, (!(Op.bytesLess a b || a == b)) = decide (0 < Lib.compareBytes a b)
  | [], [] => rfl
  | [], _ :: _ => by simp [Op.bytesLess, Lib.compareBytes]
  | _ :: _, [] => by simp [Op.bytesLess, Lib.compareBytes]
  | x :: a, y :: b => by
    have ih := less_cmp a b
    unfold Op.bytesLess Lib.compareBytes
    by_cases h : x < y
    · simp [h]
    · by_cases h2 : y < x
      · have : ¬ x = y := fun e => by subst e; exact UInt8.lt_irrefl _ h2
        simp [h, h2, this]
      · have e : x = y := UInt8.le_antisymm (UInt8.not_lt.1 h2) (UInt8.not_lt.1 h)
        subst e
        simp only [if_neg h]
        rw [← ih]
        simp
def cmpSt (x y : ByteArray) : Int := Lib.compareBytes x.data.toList y.data.toList
def minSt (x y : ByteArray) : ByteArray := if cmpSt x y ≤ 0 then x else y
theorem le_cmp (x y : ByteArray) : (Op.bytesLess x.toList y.toList || x.toList == y.toList) = decide (cmpSt x y ≤ 0) := by
  have h := less_cmp x.data.toList y.data.toList
  rw [ByteArray.toList_eq, ByteArray.toList_eq]
  unfold cmpSt
  rw [← Bool.not_inj_iff, h]
  by_cases h1 : 0 < Lib.compareBytes x.data.toList y.data.toList
  · rw [decide_eq_true h1, decide_eq_false (by omega)]; rfl
  · rw [decide_eq_false h1, decide_eq_true (by omega)]; rfl
section
variable {P : Program} {N : Nat} {Q : Exit → Act → World → Prop} {f : Fr} {ds : List Deferred} {w w' w0 : World} {o : Oper} {ops : Array Oper} {L : List Item} {K : Act → World → Prop}
theorem min2_str (x y : ByteArray) (w : World) : (Builtin.min2 (.string x) (.string y)).run P w = .ok (.string (minSt x y)) w := by
  unfold Builtin.min2 Op.stringOp minSt
  simp only [Sem.run_bind, Sem.run_pure, Result.andThen_ok]
  rw [le_cmp]
  by_cases h : cmpSt x y ≤ 0
  · simp [h, asBool]
  · simp [h, asBool]
theorem x_min3S {x y z : Operand} {ts : Array TypeId} {a b c : ByteArray} (ho : o.op = .call { callee := .builtin .min, args := #[x, y, z], argTypes := ts }) (hx : evo f x = some (.string a)) (hy : evo f y = some (.string b)) (hz : evo f z = some (.string c)) : Ex P N f ds o w (.string (minSt (minSt a b) c)) w :=
  x_builtin (vs := [.string a, .string b, .string c]) ho (by simp only [evs, hx, hy, hz]) (fun cs => by
    simp [builtin, Builtin.min_, min2_str, List.foldlM, Sem.run_bind, Result.andThen_ok])
end
theorem cl57 : callable Tryz.prog 57 = true := by kernel_rfl
theorem cl85 : callable Tryz.prog 85 = true := by kernel_rfl
theorem cl98 : callable Tryz.prog 98 = true := by kernel_rfl
def digS : ByteArray := ⟨#[48, 49, 50, 51, 52, 53, 54, 55, 56, 57, 97, 98, 99, 100, 101, 102, 103, 104, 105, 106, 107, 108, 109, 110, 111, 112, 113, 114, 115, 116, 117, 118, 119, 120, 121, 122]⟩
def smlS : ByteArray := ⟨#[48, 48, 48, 49, 48, 50, 48, 51, 48, 52, 48, 53, 48, 54, 48, 55, 48, 56, 48, 57, 49, 48, 49, 49, 49, 50, 49, 51, 49, 52, 49, 53, 49, 54, 49, 55, 49, 56, 49, 57, 50, 48, 50, 49, 50, 50, 50, 51, 50, 52, 50, 53, 50, 54, 50, 55, 50, 56, 50, 57, 51, 48, 51, 49, 51, 50, 51, 51, 51, 52, 51, 53, 51, 54, 51, 55, 51, 56, 51, 57, 52, 48, 52, 49, 52, 50, 52, 51, 52, 52, 52, 53, 52, 54, 52, 55, 52, 56, 52, 57, 53, 48, 53, 49, 53, 50, 53, 51, 53, 52, 53, 53, 53, 54, 53, 55, 53, 56, 53, 57, 54, 48, 54, 49, 54, 50, 54, 51, 54, 52, 54, 53, 54, 54, 54, 55, 54, 56, 54, 57, 55, 48, 55, 49, 55, 50, 55, 51, 55, 52, 55, 53, 55, 54, 55, 55, 55, 56, 55, 57, 56, 48, 56, 49, 56, 50, 56, 51, 56, 52, 56, 53, 56, 54, 56, 55, 56, 56, 56, 57, 57, 48, 57, 49, 57, 50, 57, 51, 57, 52, 57, 53, 57, 54, 57, 55, 57, 56, 57, 57]⟩
theorem digS_size : digS.size = 36 := rfl
theorem smlS_size : smlS.size = 200 := by kernel_rfl
def itS (n : Int) : ByteArray := if n < 10 then digS.extract n.toNat (n + 1).toNat else smlS.extract (n * 2).toNat (n * 2 + 2).toNat
theorem itS_size {n : Int} (h0 : 0 ≤ n) (h1 : n ≤ 99) : (itS n).size ≤ 21 := by
  have e1 := digS_size
  have e2 := smlS_size
  unfold itS
  split
  · rw [ByteArray.size_extract]; omega
  · rw [ByteArray.size_extract]; omega
def PowTab (w : World) : Prop := True
theorem S.tab {w w0 : World} {L : List Item} {k : Nat} (h : S w L) (hk : L[k]? = some (Old w0 no)) (ht : PowTab w0) : PowTab w := trivial
theorem compare_s (a b : ByteArray) (w : World) : Calls Tryz.prog 118 #[.string a, .string b] w fun e w' => e = .returned (.int .i64 (cmpSt a b)) ∧ S w' [Old w no] :=
  (Tryz.strings_Compare a b w).mono fun e w' ⟨he, hw⟩ => ⟨he, by rw [hw]; exact S.old w⟩
set_option maxRecDepth 20000 in
set_option maxHeartbeats 4000000 in
set_option maxRecDepth 20000 in
set_option maxHeartbeats 4000000 in
theorem small_s (n : Int) (h0 : 0 ≤ n) (h1 : n ≤ 99)  (w : World) : Calls Tryz.prog 98 #[.int .i64 n] w fun e w' => e = .returned (.string (itS n)) ∧ S w' [Old w no] := by
  have H0 := S.old w
  refine enter 15 Tryz.func98 rfl rfl rfl ?_
  refine g_weak [(0, .int .i64 n)] ⟨rfl, trivial⟩ ?_
  refine g_seq ?_
  refine g_region ?_
  refine l_of (s_val (v := .string (⟨#[]⟩)) (wt0 rfl) rfl rfl (x_assign rfl rfl) ?_)
  refine g_nil ?_
  refine g_then ?_
  refine g_seq ?_
  refine g_seq ?_
  refine g_region ?_
  refine l_of (s_val (v := .int .i64 n) (wt0 rfl) rfl rfl (x_move rfl rfl) ?_)
  refine l_of (s_val (v := .bool (decide ((n : Int) < 10))) (wt0 rfl) rfl rfl (x_bin rfl rfl rfl b_lss) ?_)
  refine g_nil ?_
  refine g_then ?_
  by_cases hb1 : (n : Int) < 10
  · skip
    refine g_cond_t rfl (decide_eq_true hb1) ?_
    refine g_seq ?_
    refine g_region ?_
    refine l_of (s_val (v := .int .i64 n) (wt0 rfl) rfl rfl (x_move rfl rfl) ?_)
    refine l_of (s_val (v := .int .i64 n) (wt0 rfl) rfl rfl (x_move rfl rfl) ?_)
    refine l_of (s_val (v := .int .i64 (n + 1)) (wt0 rfl) rfl rfl (x_bin rfl rfl rfl (b_add (w64 (by omega)))) ?_)
    refine l_of (s_val (v := .string ((digS.extract n.toNat (n + 1).toNat))) (wt0 rfl) rfl rfl (x_slices (s := digS) n.toNat (n + 1).toNat rfl rfl Tryz.underlying9 (.inr ⟨_, _, _, rfl, rfl, by omega⟩) (.inr ⟨_, _, _, rfl, rfl, by omega⟩) (by rw [digS_size]; omega)) ?_)
    refine l_of (s_val (v := .string ((digS.extract n.toNat (n + 1).toNat))) (wt0 rfl) rfl rfl (x_assign rfl rfl) ?_)
    refine g_nil ?_
    refine g_then ?_
    refine g_ret ?_
    refine g_then_ret ?_
    refine fin_ret [.tmp 2] [.string ((digS.extract n.toNat (n + 1).toNat))] rfl ⟨rfl, trivial⟩ ?_
    exact ⟨by unfold itS; first | (rw [if_pos (by omega)]; rfl) | (rw [if_neg (by omega)]; rfl), H0.mask [true]⟩
  · skip
    refine g_cond_f rfl (decide_eq_false hb1) ?_
    refine g_skip ?_
    refine g_then ?_
    refine g_seq ?_
    refine g_region ?_
    refine l_of (s_val (v := .int .i64 n) (wt0 rfl) rfl rfl (x_move rfl rfl) ?_)
    refine l_of (s_val (v := .int .i64 (n * 2)) (wt0 rfl) rfl rfl (x_bin rfl rfl rfl (b_mul (w64 (by omega)))) ?_)
    refine l_of (s_val (v := .int .i64 n) (wt0 rfl) rfl rfl (x_move rfl rfl) ?_)
    refine l_of (s_val (v := .int .i64 (n * 2)) (wt0 rfl) rfl rfl (x_bin rfl rfl rfl (b_mul (w64 (by omega)))) ?_)
    refine l_of (s_val (v := .int .i64 ((n * 2) + 2)) (wt0 rfl) rfl rfl (x_bin rfl rfl rfl (b_add (w64 (by omega)))) ?_)
    refine l_of (s_val (v := .string ((smlS.extract (n * 2).toNat (n * 2 + 2).toNat))) (wt0 rfl) rfl rfl (x_slices (s := smlS) (n * 2).toNat (n * 2 + 2).toNat rfl rfl Tryz.underlying9 (.inr ⟨_, _, _, rfl, rfl, by omega⟩) (.inr ⟨_, _, _, rfl, rfl, by omega⟩) (by rw [smlS_size]; omega)) ?_)
    refine l_of (s_val (v := .string ((smlS.extract (n * 2).toNat (n * 2 + 2).toNat))) (wt0 rfl) rfl rfl (x_assign rfl rfl) ?_)
    refine g_nil ?_
    refine g_then ?_
    refine g_ret ?_
    refine fin_ret [.tmp 2] [.string ((smlS.extract (n * 2).toNat (n * 2 + 2).toNat))] rfl ⟨rfl, trivial⟩ ?_
    exact ⟨by unfold itS; first | (rw [if_pos (by omega)]; rfl) | (rw [if_neg (by omega)]; rfl), H0.mask [true]⟩
set_option maxRecDepth 20000 in
set_option maxHeartbeats 4000000 in
set_option maxRecDepth 20000 in
set_option maxHeartbeats 4000000 in
theorem fmt_s (n : Int) (h0 : 0 ≤ n) (h1 : n ≤ 99)  (w : World) : Calls Tryz.prog 85 #[.int .i64 n, .int .i64 10] w fun e w' => e = .returned (.string (itS n)) ∧ S w' [Old w no] := by
  have H0 := S.old w
  refine enter 54 Tryz.func85 rfl rfl rfl ?_
  refine g_weak [(0, .int .i64 n), (1, .int .i64 10)] ⟨rfl, rfl, trivial⟩ ?_
  refine g_seq ?_
  refine g_region ?_
  refine l_of (s_val (v := .string (⟨#[]⟩)) (wt0 rfl) rfl rfl (x_assign rfl rfl) ?_)
  refine g_nil ?_
  refine g_then ?_
  refine g_seq ?_
  refine g_seq ?_
  refine g_region ?_
  refine l_of (s_val (v := .int .i64 10) (wt0 rfl) rfl rfl (x_move rfl rfl) ?_)
  refine l_of (s_val (v := .bool (decide ((10 : Int) = 10))) (wt0 rfl) rfl rfl (x_bin rfl rfl rfl b_eql) ?_)
  refine g_nil ?_
  refine g_then ?_
  refine g_cond_t rfl (decide_eq_true rfl) ?_
  refine g_seq ?_
  refine g_seq ?_
  refine g_region ?_
  refine l_of (s_val (v := .int .i64 n) (wt0 rfl) rfl rfl (x_move rfl rfl) ?_)
  refine l_of (s_val (v := .bool (decide ((0 : Int) ≤ n))) (wt0 rfl) rfl rfl (x_bin rfl rfl rfl b_leq) ?_)
  refine l_of (s_val (v := .bool (decide ((0 : Int) ≤ n))) (wt0 rfl) rfl rfl (x_move rfl rfl) ?_)
  refine l_of (s_val (v := .int .i64 n) (wt1 rfl rfl rfl rfl (decide_eq_true h0)) rfl rfl (x_move rfl rfl) ?_)
  refine l_of (s_val (v := .bool (decide ((n : Int) < 100))) (wt1 rfl rfl rfl rfl (decide_eq_true h0)) rfl rfl (x_bin rfl rfl rfl b_lss) ?_)
  refine l_of (s_val (v := .bool (decide ((n : Int) < 100))) (wt0 rfl) rfl rfl (x_pick_t rfl rfl (decide_eq_true h0) rfl) ?_)
  refine g_nil ?_
  refine g_then ?_
  refine g_cond_t rfl (decide_eq_true (by omega)) ?_
  refine g_seq ?_
  refine g_region ?_
  refine l_of (s_val (v := .int .i64 n) (wt0 rfl) rfl rfl (x_move rfl rfl) ?_)
  refine l_of (s_call (wt0 rfl) (x_call' rfl rfl cl98) (small_s n h0 h1 _) ?_)
  rintro _ wq1 ⟨rfl, H2⟩
  replace H2 : S wq1 [Old w no] := H0.absorb (new := []) H2
  refine b_ret rfl rfl ?_
  refine l_of (s_val (v := .string ((itS n))) (wt0 rfl) rfl rfl (x_assign rfl rfl) ?_)
  refine g_nil ?_
  refine g_then ?_
  refine g_weak [(4, .string ((itS n)))] ⟨rfl, trivial⟩ ?_
  refine g_ret ?_
  refine g_then_ret ?_
  refine g_then_ret ?_
  refine fin_ret [.tmp 4] [.string ((itS n))] rfl ⟨rfl, trivial⟩ ?_
  exact ⟨rfl, H2.mask [true]⟩
set_option maxRecDepth 20000 in
set_option maxHeartbeats 4000000 in
set_option maxRecDepth 20000 in
set_option maxHeartbeats 4000000 in
theorem itoa0_s (n : Int) (h0 : 0 ≤ n) (h1 : n ≤ 99)  (w : World) : Calls Tryz.prog 57 #[.int .i64 n] w fun e w' => e = .returned (.string (itS n)) ∧ S w' [Old w no] := by
  have H0 := S.old w
  refine enter 5 Tryz.func57 rfl rfl rfl ?_
  refine g_weak [(0, .int .i64 n)] ⟨rfl, trivial⟩ ?_
  refine g_seq ?_
  refine g_region ?_
  refine l_of (s_val (v := .string (⟨#[]⟩)) (wt0 rfl) rfl rfl (x_assign rfl rfl) ?_)
  refine g_nil ?_
  refine g_then ?_
  refine g_seq ?_
  refine g_region ?_
  refine l_of (s_val (v := .int .i64 n) (wt0 rfl) rfl rfl (x_move rfl rfl) ?_)
  refine l_of (s_call (wt0 rfl) (x_call' rfl rfl cl85) (fmt_s n h0 h1 _) ?_)
  rintro _ wq1 ⟨rfl, H2⟩
  replace H2 : S wq1 [Old w no] := H0.absorb (new := []) H2
  refine b_ret rfl rfl ?_
  refine l_of (s_val (v := .string ((itS n))) (wt0 rfl) rfl rfl (x_assign rfl rfl) ?_)
  refine g_nil ?_
  refine g_then ?_
  refine g_ret ?_
  refine fin_ret [.tmp 2] [.string ((itS n))] rfl ⟨rfl, trivial⟩ ?_
  exact ⟨rfl, H2.mask [true]⟩
set_option maxRecDepth 20000 in
set_option maxHeartbeats 4000000 in
set_option maxRecDepth 20000 in
set_option maxHeartbeats 4000000 in
theorem itoa1_s (n : Int) (h0 : 0 ≤ n) (h1 : n ≤ 99)  (w : World) : Calls Tryz.prog 52 #[.int .i64 n] w fun e w' => e = .returned (.string (itS n)) ∧ S w' [Old w no] := by
  have H0 := S.old w
  refine enter 5 Tryz.func52 rfl rfl rfl ?_
  refine g_weak [(0, .int .i64 n)] ⟨rfl, trivial⟩ ?_
  refine g_seq ?_
  refine g_region ?_
  refine l_of (s_val (v := .string (⟨#[]⟩)) (wt0 rfl) rfl rfl (x_assign rfl rfl) ?_)
  refine g_nil ?_
  refine g_then ?_
  refine g_seq ?_
  refine g_region ?_
  refine l_of (s_val (v := .int .i64 n) (wt0 rfl) rfl rfl (x_move rfl rfl) ?_)
  refine l_of (s_call (wt0 rfl) (x_call' rfl rfl cl57) (itoa0_s n h0 h1 _) ?_)
  rintro _ wq1 ⟨rfl, H2⟩
  replace H2 : S wq1 [Old w no] := H0.absorb (new := []) H2
  refine b_ret rfl rfl ?_
  refine l_of (s_val (v := .string ((itS n))) (wt0 rfl) rfl rfl (x_assign rfl rfl) ?_)
  refine g_nil ?_
  refine g_then ?_
  refine g_ret ?_
  refine fin_ret [.tmp 2] [.string ((itS n))] rfl ⟨rfl, trivial⟩ ?_
  exact ⟨rfl, H2.mask [true]⟩
theorem itoa_s (n : Int) (h0 : 0 ≤ n) (h1 : n ≤ 99) (w : World) (ht : PowTab w) : Calls Tryz.prog 52 #[.int .i64 n] w fun e w' => e = .returned (.string (itS n)) ∧ S w' [Old w no] := itoa1_s n h0 h1 w
end Go.Proofs.YtpbjekdjebjbkaaGreat
