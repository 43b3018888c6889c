import Derived.Test.YthfglkkjkpdkpaaGreatDoorLb
import Derived.Test.YthfglkkjkpdkpaaGreatDoorHc
import Derived.Test.YthfglkkjkpdkpaaGreatDoorGi
set_option linter.unusedSimpArgs false
set_option linter.unusedVariables false
namespace Go.Proofs.YthfglkkjkpdkpaaGreatDoor
open Go.RowKit

theorem cl72 : callable Tryz.prog 72 = true := by kernel_rfl
theorem cl73 : callable Tryz.prog 73 = true := by kernel_rfl
theorem cl79 : callable Tryz.prog 79 = true := by kernel_rfl
theorem cl87 : callable Tryz.prog 87 = true := by kernel_rfl
theorem cl90 : callable Tryz.prog 90 = true := by kernel_rfl
def oldS (s : ByteArray) : ByteArray := (sumS ((⟨#[111, 108, 100, 58]⟩ : ByteArray) ++ s)).extract 0 20
/-- What tells a rival in a round. -/
def nameS (round : Int) (seed : ByteArray) (x : Rv) : ByteArray := (((seed ++ ⟨#[58]⟩) ++ itS (round / 3)) ++ ⟨#[58]⟩) ++ itS x.id
def luckS (round : Int) (seed : ByteArray) (x : Rv) : ByteArray :=
  if round - x.since < 3 then minSt (minSt (oldS (nameS round seed x)) (oldS (nameS round seed x ++ ⟨#[97]⟩))) (oldS (nameS round seed x ++ ⟨#[98]⟩)) else oldS (nameS round seed x)
set_option maxRecDepth 20000 in
set_option maxHeartbeats 4000000 in
set_option maxRecDepth 20000 in
set_option maxHeartbeats 4000000 in
theorem old_h (s : ByteArray) (hs : s.size ≤ 1048576) (w : World) : Calls Tryz.prog 73 #[.string s] w fun e w' => e = .returned (.string (oldS s)) ∧ S w' [Old w no] := by
  have H0 := S.old w
  have hz4 : (⟨#[111, 108, 100, 58]⟩ : ByteArray).size = 4 := rfl
  refine enter 7 Tryz.func73 rfl rfl rfl ?_
  refine g_weak [(0, .string s)] ⟨rfl, trivial⟩ ?_
  refine g_seq ?_
  refine g_region ?_
  refine l_of (s_val (v := .string (⟨#[]⟩)) (wt0 rfl) rfl rfl (x_assign rfl rfl) ?_)
  refine g_nil ?_
  refine g_then ?_
  refine g_seq ?_
  refine g_region ?_
  refine l_of (s_val (v := .string s) (wt0 rfl) rfl rfl (x_move rfl rfl) ?_)
  have hsz1 : ((⟨#[111, 108, 100, 58]⟩ : ByteArray) ++ s).size = (⟨#[111, 108, 100, 58]⟩ : ByteArray).size + s.size := ByteArray.size_append
  refine l_of (s_val (v := .string ((⟨#[111, 108, 100, 58]⟩ : ByteArray) ++ s)) (wt0 rfl) rfl rfl (x_bin rfl rfl rfl (b_cat (by omega))) ?_)
  refine l_of (s_call (wt0 rfl) (x_call' rfl rfl cl87) (sum_h _ (by omega) _) ?_)
  rintro _ wq2 ⟨rfl, H3⟩
  replace H3 : S wq2 [Old w no] := H0.absorb (new := []) H3
  refine b_ret rfl rfl ?_
  have hss := sumS_size ((⟨#[111, 108, 100, 58]⟩ : ByteArray) ++ s)
  refine l_of (s_val (v := .string ((oldS s))) (wt0 rfl) rfl rfl (x_slices 0 20 rfl rfl Tryz.underlying9 (.inl ⟨rfl, rfl⟩) (.inr ⟨_, _, _, rfl, rfl, by omega⟩) (by omega)) ?_)
  refine l_of (s_val (v := .string ((oldS s))) (wt0 rfl) rfl rfl (x_assign rfl rfl) ?_)
  refine g_nil ?_
  refine g_then ?_
  refine g_ret ?_
  refine fin_ret [.tmp 2] [.string ((oldS s))] rfl ⟨rfl, trivial⟩ ?_
  exact ⟨rfl, H3.mask [true]⟩
set_option maxRecDepth 20000 in
set_option maxHeartbeats 4000000 in
set_option maxRecDepth 20000 in
set_option maxHeartbeats 4000000 in
theorem old_r (s : ByteArray) (hs : s.size ≤ 1048576) (w : World) : Calls Tryz.prog 79 #[.string s] w fun e w' => e = .returned (.string (oldS s)) ∧ S w' [Old w no] := by
  have H0 := S.old w
  have hz4 : (⟨#[111, 108, 100, 58]⟩ : ByteArray).size = 4 := rfl
  refine enter 7 Tryz.func79 rfl rfl rfl ?_
  refine g_weak [(0, .string s)] ⟨rfl, trivial⟩ ?_
  refine g_seq ?_
  refine g_region ?_
  refine l_of (s_val (v := .string (⟨#[]⟩)) (wt0 rfl) rfl rfl (x_assign rfl rfl) ?_)
  refine g_nil ?_
  refine g_then ?_
  refine g_seq ?_
  refine g_region ?_
  refine l_of (s_val (v := .string s) (wt0 rfl) rfl rfl (x_move rfl rfl) ?_)
  have hsz1 : ((⟨#[111, 108, 100, 58]⟩ : ByteArray) ++ s).size = (⟨#[111, 108, 100, 58]⟩ : ByteArray).size + s.size := ByteArray.size_append
  refine l_of (s_val (v := .string ((⟨#[111, 108, 100, 58]⟩ : ByteArray) ++ s)) (wt0 rfl) rfl rfl (x_bin rfl rfl rfl (b_cat (by omega))) ?_)
  refine l_of (s_call (wt0 rfl) (x_call' rfl rfl cl90) (sum_r _ (by omega) _) ?_)
  rintro _ wq2 ⟨rfl, H3⟩
  replace H3 : S wq2 [Old w no] := H0.absorb (new := []) H3
  refine b_ret rfl rfl ?_
  have hss := sumS_size ((⟨#[111, 108, 100, 58]⟩ : ByteArray) ++ s)
  refine l_of (s_val (v := .string ((oldS s))) (wt0 rfl) rfl rfl (x_slices 0 20 rfl rfl Tryz.underlying9 (.inl ⟨rfl, rfl⟩) (.inr ⟨_, _, _, rfl, rfl, by omega⟩) (by omega)) ?_)
  refine l_of (s_val (v := .string ((oldS s))) (wt0 rfl) rfl rfl (x_assign rfl rfl) ?_)
  refine g_nil ?_
  refine g_then ?_
  refine g_ret ?_
  refine fin_ret [.tmp 2] [.string ((oldS s))] rfl ⟨rfl, trivial⟩ ?_
  exact ⟨rfl, H3.mask [true]⟩
set_option maxRecDepth 20000 in
set_option maxHeartbeats 4000000 in
set_option maxRecDepth 20000 in
set_option maxHeartbeats 4000000 in
theorem drawn1_s (b1 b2 : Nat) (w0 : World) (ht : PowTab w0) (seed : ByteArray) (round : Int) (hsd : seed.size ≤ 200) (hrd : 0 ≤ round ∧ round ≤ 9223372036854775807) (x : Rv) (hx : DV x)  (w : World) (HS : S w [Ob b1 (.cells #[.string seed] 9 (0, 0)), Ob b2 (.cells #[.int .i64 round] 3 (0, 0)), Old w0 no]) : Calls Tryz.prog 71 #[.agg #[.int .i64 (x.id), .bool x.intr, .bool x.chk, .int .i64 (x.frm), .int .i64 (x.to), .int .i64 (x.lt), .int .i64 (x.since), .bool x.snb, .bool x.now, .bool x.seed], .pointer (some ⟨b1, 0, none⟩), .pointer (some ⟨b2, 0, none⟩)] w fun e w' => e = .returned (.string (luckS round seed x)) ∧ S w' ([Ob b1 (.cells #[.string seed] 9 (0, 0)), Ob b2 (.cells #[.int .i64 round] 3 (0, 0)), Old w0 no] ++ [Old w (fps [Ob b1 (.cells #[.string seed] 9 (0, 0)), Ob b2 (.cells #[.int .i64 round] 3 (0, 0)), Old w0 no])]) := by
  have H00 := HS.beginI
  have H0 : S w ([Ob b1 (.cells #[.string seed] 9 (0, 0)), Ob b2 (.cells #[.int .i64 round] 3 (0, 0)), Old w0 no, Old w (fps [Ob b1 (.cells #[.string seed] 9 (0, 0)), Ob b2 (.cells #[.int .i64 round] 3 (0, 0)), Old w0 no])]) := H00
  have hz1 : (⟨#[58]⟩ : ByteArray).size = 1 := rfl
  have hz2 : (⟨#[97]⟩ : ByteArray).size = 1 := rfl
  have hz3 : (⟨#[98]⟩ : ByteArray).size = 1 := rfl
  unfold DV at hx
  refine enter 34 Tryz.func71 rfl rfl rfl ?_
  refine g_weak [(0, .agg #[.int .i64 (x.id), .bool x.intr, .bool x.chk, .int .i64 (x.frm), .int .i64 (x.to), .int .i64 (x.lt), .int .i64 (x.since), .bool x.snb, .bool x.now, .bool x.seed]), (1, .pointer (some ⟨b1, 0, none⟩)), (2, .pointer (some ⟨b2, 0, none⟩))] ⟨rfl, rfl, rfl, trivial⟩ ?_
  refine g_seq ?_
  refine g_region ?_
  refine l_of (s_box H0 (wt0 rfl) rfl rfl rfl rfl ?_)
  intro g1 wq2 H3
  refine l_of (s_val (v := .string (⟨#[]⟩)) (wt0 rfl) rfl rfl (x_assign rfl rfl) ?_)
  refine g_nil ?_
  refine g_then ?_
  refine g_seq ?_
  refine g_anyY [] (fun wx => S wx [Ob g1 (.cells #[.int .i64 (x.id), .bool x.intr, .bool x.chk, .int .i64 (x.frm), .int .i64 (x.to), .int .i64 (x.lt), .int .i64 (x.since), .bool x.snb, .bool x.now, .bool x.seed] 30 (0, 0)), Ob b1 (.cells #[.string seed] 9 (0, 0)), Ob b2 (.cells #[.int .i64 round] 3 (0, 0))]) (fun wx => S wx [Ob g1 (.cells #[.int .i64 (x.id), .bool x.intr, .bool x.chk, .int .i64 (x.frm), .int .i64 (x.to), .int .i64 (x.lt), .int .i64 (x.since), .bool x.snb, .bool x.now, .bool x.seed] 30 (0, 0)), Ob b1 (.cells #[.string seed] 9 (0, 0)), Ob b2 (.cells #[.int .i64 round] 3 (0, 0))]) [] (by kernel_rfl) H3 (fun wq4 H5 => ?_)
  refine y_take (v := .string seed) 0 rfl (wt0 rfl) rfl rfl rfl (by kernel_rfl) (by kernel_rfl) (by kernel_rfl) (by kernel_rfl) (by kernel_rfl) (H5.mask [true, true, true, false, false]) (fun wx H => x_load1 H 1 rfl rfl Tryz.underlying9 rfl rfl rfl) ?_
  have hsz6 : (seed ++ (⟨#[58]⟩ : ByteArray)).size = seed.size + (⟨#[58]⟩ : ByteArray).size := ByteArray.size_append
  refine y_pure (v := .string (seed ++ (⟨#[58]⟩ : ByteArray))) 1 rfl (wt0 rfl) rfl rfl rfl (by kernel_rfl) (by kernel_rfl) (by kernel_rfl) (by kernel_rfl) (fun wx => x_bin rfl rfl rfl (b_cat (by omega))) ?_
  refine y_take (v := .int .i64 round) 2 rfl (wt0 rfl) rfl rfl rfl (by kernel_rfl) (by kernel_rfl) (by kernel_rfl) (by kernel_rfl) (by kernel_rfl) (H5.mask [true, true, true, false, false]) (fun wx H => x_load1 H 2 rfl rfl Tryz.underlying3 rfl rfl rfl) ?_
  refine y_pure (v := .int .i64 (round / 3)) 3 rfl (wt0 rfl) rfl rfl rfl (by kernel_rfl) (by kernel_rfl) (by kernel_rfl) (by kernel_rfl) (fun wx => x_bin rfl rfl rfl (b_quo (by omega) (quo64 (by omega)))) ?_
  refine y_pure (v := .pointer (some ⟨g1, 0, none⟩)) 7 rfl (wt0 rfl) rfl rfl rfl (by kernel_rfl) (by kernel_rfl) (by kernel_rfl) (by kernel_rfl) (fun wx => x_fieldAddr rfl rfl fo30_0 rfl) ?_
  refine y_take (v := .int .i64 (x.id)) 8 rfl (wt0 rfl) rfl rfl rfl (by kernel_rfl) (by kernel_rfl) (by kernel_rfl) (by kernel_rfl) (by kernel_rfl) (H5.mask [true, true, true, false, false]) (fun wx H => x_load1 H 0 rfl rfl Tryz.underlying3 rfl rfl rfl) ?_
  refine y_one (i := 4) (by kernel_rfl) rfl ?_
  refine s_call (wt0 rfl) (x_call' rfl rfl cl72) (itoa_s (round / 3) (by omega) (by omega) _ (H5.tab (k := 3) rfl ht)) ?_
  rintro _ wq8 ⟨rfl, H9⟩
  replace H9 : S wq8 [Ob g1 (.cells #[.int .i64 (x.id), .bool x.intr, .bool x.chk, .int .i64 (x.frm), .int .i64 (x.to), .int .i64 (x.lt), .int .i64 (x.since), .bool x.snb, .bool x.now, .bool x.seed] 30 (0, 0)), Ob b1 (.cells #[.string seed] 9 (0, 0)), Ob b2 (.cells #[.int .i64 round] 3 (0, 0)), Old w0 no, Old w (fps [Ob b1 (.cells #[.string seed] 9 (0, 0)), Ob b2 (.cells #[.int .i64 round] 3 (0, 0)), Old w0 no])] := H5.absorb (new := []) H9
  have hit7 := itS_size (n := round / 3) (by omega) (by omega)
  refine b_ret rfl rfl ?_
  refine y_k (H9.mask [true, true, true, false, false]) (H9.mask [true, true, true, false, false]) ?_
  have hsz10 : ((seed ++ (⟨#[58]⟩ : ByteArray)) ++ (itS (round / 3))).size = (seed ++ (⟨#[58]⟩ : ByteArray)).size + (itS (round / 3)).size := ByteArray.size_append
  refine y_pure (v := .string ((seed ++ (⟨#[58]⟩ : ByteArray)) ++ (itS (round / 3)))) 5 rfl (wt0 rfl) rfl rfl rfl (by kernel_rfl) (by kernel_rfl) (by kernel_rfl) (by kernel_rfl) (fun wx => x_bin rfl rfl rfl (b_cat (by omega))) ?_
  have hsz11 : (((seed ++ (⟨#[58]⟩ : ByteArray)) ++ (itS (round / 3))) ++ (⟨#[58]⟩ : ByteArray)).size = ((seed ++ (⟨#[58]⟩ : ByteArray)) ++ (itS (round / 3))).size + (⟨#[58]⟩ : ByteArray).size := ByteArray.size_append
  refine y_pure (v := .string (((seed ++ (⟨#[58]⟩ : ByteArray)) ++ (itS (round / 3))) ++ (⟨#[58]⟩ : ByteArray))) 6 rfl (wt0 rfl) rfl rfl rfl (by kernel_rfl) (by kernel_rfl) (by kernel_rfl) (by kernel_rfl) (fun wx => x_bin rfl rfl rfl (b_cat (by omega))) ?_
  refine y_one (i := 9) (by kernel_rfl) rfl ?_
  refine s_call (wt0 rfl) (x_call' rfl rfl cl72) (itoa_s x.id (by omega) (by omega) _ (H9.tab (k := 3) rfl ht)) ?_
  rintro _ wq13 ⟨rfl, H14⟩
  replace H14 : S wq13 [Ob g1 (.cells #[.int .i64 (x.id), .bool x.intr, .bool x.chk, .int .i64 (x.frm), .int .i64 (x.to), .int .i64 (x.lt), .int .i64 (x.since), .bool x.snb, .bool x.now, .bool x.seed] 30 (0, 0)), Ob b1 (.cells #[.string seed] 9 (0, 0)), Ob b2 (.cells #[.int .i64 round] 3 (0, 0)), Old w0 no, Old w (fps [Ob b1 (.cells #[.string seed] 9 (0, 0)), Ob b2 (.cells #[.int .i64 round] 3 (0, 0)), Old w0 no])] := H9.absorb (new := []) H14
  have hit12 := itS_size (n := x.id) (by omega) (by omega)
  refine b_ret rfl rfl ?_
  refine y_k (H14.mask [true, true, true, false, false]) (H14.mask [true, true, true, false, false]) ?_
  have hsz15 : ((((seed ++ (⟨#[58]⟩ : ByteArray)) ++ (itS (round / 3))) ++ (⟨#[58]⟩ : ByteArray)) ++ (itS x.id)).size = (((seed ++ (⟨#[58]⟩ : ByteArray)) ++ (itS (round / 3))) ++ (⟨#[58]⟩ : ByteArray)).size + (itS x.id).size := ByteArray.size_append
  refine y_pure (v := .string ((((seed ++ (⟨#[58]⟩ : ByteArray)) ++ (itS (round / 3))) ++ (⟨#[58]⟩ : ByteArray)) ++ (itS x.id))) 10 rfl (wt0 rfl) rfl rfl rfl (by kernel_rfl) (by kernel_rfl) (by kernel_rfl) (by kernel_rfl) (fun wx => x_bin rfl rfl rfl (b_cat (by omega))) ?_
  refine y_pure (v := .string ((((seed ++ (⟨#[58]⟩ : ByteArray)) ++ (itS (round / 3))) ++ (⟨#[58]⟩ : ByteArray)) ++ (itS x.id))) 11 rfl (wt0 rfl) rfl rfl rfl (by kernel_rfl) (by kernel_rfl) (by kernel_rfl) (by kernel_rfl) (fun wx => x_assign rfl rfl) ?_
  refine y_done (by kernel_rfl) ?_
  refine g_then ?_
  refine g_weak [(2, .pointer (some ⟨b2, 0, none⟩)), (3, .pointer (some ⟨g1, 0, none⟩)), (5, .string ((((seed ++ (⟨#[58]⟩ : ByteArray)) ++ (itS (round / 3))) ++ (⟨#[58]⟩ : ByteArray)) ++ (itS x.id)))] ⟨rfl, rfl, rfl, trivial⟩ ?_
  refine g_seq ?_
  refine g_region ?_
  refine l_of (s_val (v := .string ((((seed ++ (⟨#[58]⟩ : ByteArray)) ++ (itS (round / 3))) ++ (⟨#[58]⟩ : ByteArray)) ++ (itS x.id))) (wt0 rfl) rfl rfl (x_move rfl rfl) ?_)
  refine l_of (s_call (wt0 rfl) (x_call' rfl rfl cl73) (old_h ((((seed ++ (⟨#[58]⟩ : ByteArray)) ++ (itS (round / 3))) ++ (⟨#[58]⟩ : ByteArray)) ++ (itS x.id)) (by omega) _) ?_)
  rintro _ wq16 ⟨rfl, H17⟩
  replace H17 : S wq16 [Ob g1 (.cells #[.int .i64 (x.id), .bool x.intr, .bool x.chk, .int .i64 (x.frm), .int .i64 (x.to), .int .i64 (x.lt), .int .i64 (x.since), .bool x.snb, .bool x.now, .bool x.seed] 30 (0, 0)), Ob b1 (.cells #[.string seed] 9 (0, 0)), Ob b2 (.cells #[.int .i64 round] 3 (0, 0)), Old w0 no, Old w (fps [Ob b1 (.cells #[.string seed] 9 (0, 0)), Ob b2 (.cells #[.int .i64 round] 3 (0, 0)), Old w0 no])] := H14.absorb (new := []) H17
  refine b_ret rfl rfl ?_
  refine l_of (s_val (v := .string ((oldS ((((seed ++ (⟨#[58]⟩ : ByteArray)) ++ (itS (round / 3))) ++ (⟨#[58]⟩ : ByteArray)) ++ (itS x.id))))) (wt0 rfl) rfl rfl (x_assign rfl rfl) ?_)
  refine g_nil ?_
  refine g_then ?_
  refine g_seq ?_
  refine g_seq ?_
  refine g_region ?_
  refine l_of (s_val (v := .int .i64 round) (wt0 rfl) rfl rfl (x_load1 H17 2 rfl rfl Tryz.underlying3 rfl rfl rfl) ?_)
  refine l_of (s_val (v := .pointer (some ⟨g1, 6, none⟩)) (wt0 rfl) rfl rfl (x_fieldAddr rfl rfl fo30_6 rfl) ?_)
  refine l_of (s_val (v := .int .i64 (x.since)) (wt0 rfl) rfl rfl (x_load1 H17 0 rfl rfl Tryz.underlying3 rfl rfl rfl) ?_)
  refine l_of (s_val (v := .int .i64 (round - x.since)) (wt0 rfl) rfl rfl (x_bin rfl rfl rfl (b_sub (w64 (by omega)))) ?_)
  refine l_of (s_val (v := .bool (decide ((round - x.since : Int) < 3))) (wt0 rfl) rfl rfl (x_bin rfl rfl rfl b_lss) ?_)
  refine g_nil ?_
  refine g_then ?_
  by_cases hb18 : (round - x.since : Int) < 3
  · skip
    refine g_cond_t rfl (decide_eq_true hb18) ?_
    refine g_region ?_
    refine l_of (s_val (v := .string ((oldS ((((seed ++ (⟨#[58]⟩ : ByteArray)) ++ (itS (round / 3))) ++ (⟨#[58]⟩ : ByteArray)) ++ (itS x.id))))) (wt0 rfl) rfl rfl (x_move rfl rfl) ?_)
    refine l_of (s_val (v := .string ((((seed ++ (⟨#[58]⟩ : ByteArray)) ++ (itS (round / 3))) ++ (⟨#[58]⟩ : ByteArray)) ++ (itS x.id))) (wt0 rfl) rfl rfl (x_move rfl rfl) ?_)
    have hsz19 : (((((seed ++ (⟨#[58]⟩ : ByteArray)) ++ (itS (round / 3))) ++ (⟨#[58]⟩ : ByteArray)) ++ (itS x.id)) ++ (⟨#[97]⟩ : ByteArray)).size = ((((seed ++ (⟨#[58]⟩ : ByteArray)) ++ (itS (round / 3))) ++ (⟨#[58]⟩ : ByteArray)) ++ (itS x.id)).size + (⟨#[97]⟩ : ByteArray).size := ByteArray.size_append
    refine l_of (s_val (v := .string (((((seed ++ (⟨#[58]⟩ : ByteArray)) ++ (itS (round / 3))) ++ (⟨#[58]⟩ : ByteArray)) ++ (itS x.id)) ++ (⟨#[97]⟩ : ByteArray))) (wt0 rfl) rfl rfl (x_bin rfl rfl rfl (b_cat (by omega))) ?_)
    refine l_of (s_call (wt0 rfl) (x_call' rfl rfl cl73) (old_h (((((seed ++ (⟨#[58]⟩ : ByteArray)) ++ (itS (round / 3))) ++ (⟨#[58]⟩ : ByteArray)) ++ (itS x.id)) ++ (⟨#[97]⟩ : ByteArray)) (by omega) _) ?_)
    rintro _ wq20 ⟨rfl, H21⟩
    replace H21 : S wq20 [Ob g1 (.cells #[.int .i64 (x.id), .bool x.intr, .bool x.chk, .int .i64 (x.frm), .int .i64 (x.to), .int .i64 (x.lt), .int .i64 (x.since), .bool x.snb, .bool x.now, .bool x.seed] 30 (0, 0)), Ob b1 (.cells #[.string seed] 9 (0, 0)), Ob b2 (.cells #[.int .i64 round] 3 (0, 0)), Old w0 no, Old w (fps [Ob b1 (.cells #[.string seed] 9 (0, 0)), Ob b2 (.cells #[.int .i64 round] 3 (0, 0)), Old w0 no])] := H17.absorb (new := []) H21
    refine b_ret rfl rfl ?_
    refine l_of (s_val (v := .string ((((seed ++ (⟨#[58]⟩ : ByteArray)) ++ (itS (round / 3))) ++ (⟨#[58]⟩ : ByteArray)) ++ (itS x.id))) (wt0 rfl) rfl rfl (x_move rfl rfl) ?_)
    have hsz22 : (((((seed ++ (⟨#[58]⟩ : ByteArray)) ++ (itS (round / 3))) ++ (⟨#[58]⟩ : ByteArray)) ++ (itS x.id)) ++ (⟨#[98]⟩ : ByteArray)).size = ((((seed ++ (⟨#[58]⟩ : ByteArray)) ++ (itS (round / 3))) ++ (⟨#[58]⟩ : ByteArray)) ++ (itS x.id)).size + (⟨#[98]⟩ : ByteArray).size := ByteArray.size_append
    refine l_of (s_val (v := .string (((((seed ++ (⟨#[58]⟩ : ByteArray)) ++ (itS (round / 3))) ++ (⟨#[58]⟩ : ByteArray)) ++ (itS x.id)) ++ (⟨#[98]⟩ : ByteArray))) (wt0 rfl) rfl rfl (x_bin rfl rfl rfl (b_cat (by omega))) ?_)
    refine l_of (s_call (wt0 rfl) (x_call' rfl rfl cl73) (old_h (((((seed ++ (⟨#[58]⟩ : ByteArray)) ++ (itS (round / 3))) ++ (⟨#[58]⟩ : ByteArray)) ++ (itS x.id)) ++ (⟨#[98]⟩ : ByteArray)) (by omega) _) ?_)
    rintro _ wq23 ⟨rfl, H24⟩
    replace H24 : S wq23 [Ob g1 (.cells #[.int .i64 (x.id), .bool x.intr, .bool x.chk, .int .i64 (x.frm), .int .i64 (x.to), .int .i64 (x.lt), .int .i64 (x.since), .bool x.snb, .bool x.now, .bool x.seed] 30 (0, 0)), Ob b1 (.cells #[.string seed] 9 (0, 0)), Ob b2 (.cells #[.int .i64 round] 3 (0, 0)), Old w0 no, Old w (fps [Ob b1 (.cells #[.string seed] 9 (0, 0)), Ob b2 (.cells #[.int .i64 round] 3 (0, 0)), Old w0 no])] := H21.absorb (new := []) H24
    refine b_ret rfl rfl ?_
    refine l_of (s_val (v := .string ((minSt (minSt (oldS ((((seed ++ (⟨#[58]⟩ : ByteArray)) ++ (itS (round / 3))) ++ (⟨#[58]⟩ : ByteArray)) ++ (itS x.id))) (oldS (((((seed ++ (⟨#[58]⟩ : ByteArray)) ++ (itS (round / 3))) ++ (⟨#[58]⟩ : ByteArray)) ++ (itS x.id)) ++ (⟨#[97]⟩ : ByteArray)))) (oldS (((((seed ++ (⟨#[58]⟩ : ByteArray)) ++ (itS (round / 3))) ++ (⟨#[58]⟩ : ByteArray)) ++ (itS x.id)) ++ (⟨#[98]⟩ : ByteArray)))))) (wt0 rfl) rfl rfl (x_min3S rfl rfl rfl rfl) ?_)
    refine l_of (s_val (v := .string ((minSt (minSt (oldS ((((seed ++ (⟨#[58]⟩ : ByteArray)) ++ (itS (round / 3))) ++ (⟨#[58]⟩ : ByteArray)) ++ (itS x.id))) (oldS (((((seed ++ (⟨#[58]⟩ : ByteArray)) ++ (itS (round / 3))) ++ (⟨#[58]⟩ : ByteArray)) ++ (itS x.id)) ++ (⟨#[97]⟩ : ByteArray)))) (oldS (((((seed ++ (⟨#[58]⟩ : ByteArray)) ++ (itS (round / 3))) ++ (⟨#[58]⟩ : ByteArray)) ++ (itS x.id)) ++ (⟨#[98]⟩ : ByteArray)))))) (wt0 rfl) rfl rfl (x_assign rfl rfl) ?_)
    refine g_nil ?_
    refine g_then ?_
    refine g_weak [(6, .string ((minSt (minSt (oldS ((((seed ++ (⟨#[58]⟩ : ByteArray)) ++ (itS (round / 3))) ++ (⟨#[58]⟩ : ByteArray)) ++ (itS x.id))) (oldS (((((seed ++ (⟨#[58]⟩ : ByteArray)) ++ (itS (round / 3))) ++ (⟨#[58]⟩ : ByteArray)) ++ (itS x.id)) ++ (⟨#[97]⟩ : ByteArray)))) (oldS (((((seed ++ (⟨#[58]⟩ : ByteArray)) ++ (itS (round / 3))) ++ (⟨#[58]⟩ : ByteArray)) ++ (itS x.id)) ++ (⟨#[98]⟩ : ByteArray))))))] ⟨rfl, trivial⟩ ?_
    refine g_seq ?_
    refine g_region ?_
    refine l_of (s_val (v := .string ((minSt (minSt (oldS ((((seed ++ (⟨#[58]⟩ : ByteArray)) ++ (itS (round / 3))) ++ (⟨#[58]⟩ : ByteArray)) ++ (itS x.id))) (oldS (((((seed ++ (⟨#[58]⟩ : ByteArray)) ++ (itS (round / 3))) ++ (⟨#[58]⟩ : ByteArray)) ++ (itS x.id)) ++ (⟨#[97]⟩ : ByteArray)))) (oldS (((((seed ++ (⟨#[58]⟩ : ByteArray)) ++ (itS (round / 3))) ++ (⟨#[58]⟩ : ByteArray)) ++ (itS x.id)) ++ (⟨#[98]⟩ : ByteArray)))))) (wt0 rfl) rfl rfl (x_move rfl rfl) ?_)
    refine l_of (s_val (v := .string ((minSt (minSt (oldS ((((seed ++ (⟨#[58]⟩ : ByteArray)) ++ (itS (round / 3))) ++ (⟨#[58]⟩ : ByteArray)) ++ (itS x.id))) (oldS (((((seed ++ (⟨#[58]⟩ : ByteArray)) ++ (itS (round / 3))) ++ (⟨#[58]⟩ : ByteArray)) ++ (itS x.id)) ++ (⟨#[97]⟩ : ByteArray)))) (oldS (((((seed ++ (⟨#[58]⟩ : ByteArray)) ++ (itS (round / 3))) ++ (⟨#[58]⟩ : ByteArray)) ++ (itS x.id)) ++ (⟨#[98]⟩ : ByteArray)))))) (wt0 rfl) rfl rfl (x_assign rfl rfl) ?_)
    refine g_nil ?_
    refine g_then ?_
    refine g_ret ?_
    refine fin_ret [.tmp 4] [.string ((minSt (minSt (oldS ((((seed ++ (⟨#[58]⟩ : ByteArray)) ++ (itS (round / 3))) ++ (⟨#[58]⟩ : ByteArray)) ++ (itS x.id))) (oldS (((((seed ++ (⟨#[58]⟩ : ByteArray)) ++ (itS (round / 3))) ++ (⟨#[58]⟩ : ByteArray)) ++ (itS x.id)) ++ (⟨#[97]⟩ : ByteArray)))) (oldS (((((seed ++ (⟨#[58]⟩ : ByteArray)) ++ (itS (round / 3))) ++ (⟨#[58]⟩ : ByteArray)) ++ (itS x.id)) ++ (⟨#[98]⟩ : ByteArray)))))] rfl ⟨rfl, trivial⟩ ?_
    exact ⟨by unfold luckS nameS; rw [if_pos hb18]; rfl, H24.takes [1, 2, 3, 4] (by decide)⟩
  · skip
    refine g_cond_f rfl (decide_eq_false hb18) ?_
    refine g_skip ?_
    refine g_then ?_
    refine g_seq ?_
    refine g_region ?_
    refine l_of (s_val (v := .string ((oldS ((((seed ++ (⟨#[58]⟩ : ByteArray)) ++ (itS (round / 3))) ++ (⟨#[58]⟩ : ByteArray)) ++ (itS x.id))))) (wt0 rfl) rfl rfl (x_move rfl rfl) ?_)
    refine l_of (s_val (v := .string ((oldS ((((seed ++ (⟨#[58]⟩ : ByteArray)) ++ (itS (round / 3))) ++ (⟨#[58]⟩ : ByteArray)) ++ (itS x.id))))) (wt0 rfl) rfl rfl (x_assign rfl rfl) ?_)
    refine g_nil ?_
    refine g_then ?_
    refine g_weak [(4, .string ((oldS ((((seed ++ (⟨#[58]⟩ : ByteArray)) ++ (itS (round / 3))) ++ (⟨#[58]⟩ : ByteArray)) ++ (itS x.id)))))] ⟨rfl, trivial⟩ ?_
    refine g_ret ?_
    refine fin_ret [.tmp 4] [.string ((oldS ((((seed ++ (⟨#[58]⟩ : ByteArray)) ++ (itS (round / 3))) ++ (⟨#[58]⟩ : ByteArray)) ++ (itS x.id))))] rfl ⟨rfl, trivial⟩ ?_
    exact ⟨by unfold luckS nameS; rw [if_neg hb18]; rfl, H17.takes [1, 2, 3, 4] (by decide)⟩
theorem drawn1_f (b1 b2 : Nat) (w0 : World) (ht : PowTab w0) (seed : ByteArray) (round : Int) (hsd : seed.size ≤ 200) (hrd : 0 ≤ round ∧ round ≤ 9223372036854775807) : FunC Tryz.prog 71 #[] #[.pointer (some ⟨b1, 0, none⟩), .pointer (some ⟨b2, 0, none⟩)] (Big [Ob b1 (.cells #[.string seed] 9 (0, 0)), Ob b2 (.cells #[.int .i64 round] 3 (0, 0)), Old w0 no]) (fun x : Rv => [x.v]) (fun x => .string (luckS round seed x)) DV :=
  FunC.ofBig (by kernel_rfl) fun z hb w HS => drawn1_s b1 b2 w0 ht seed round hsd hrd _ hb w HS
set_option maxRecDepth 20000 in
set_option maxHeartbeats 4000000 in
set_option maxRecDepth 20000 in
set_option maxHeartbeats 4000000 in
theorem luck_r (seed : ByteArray) (round : Int) (hsd : seed.size ≤ 200) (hrd : 0 ≤ round ∧ round ≤ 9223372036854775807) (x : Rv) (hx : DV x)  (w : World) (ht : PowTab w) : Calls Tryz.prog 42 #[.int .i64 round, .string seed, .agg #[.int .i64 (x.id), .bool x.intr, .bool x.chk, .int .i64 (x.frm), .int .i64 (x.to), .int .i64 (x.lt), .int .i64 (x.since), .bool x.snb, .bool x.now, .bool x.seed]] w fun e w' => e = .returned (.string (luckS round seed x)) ∧ S w' [Old w no] := by
  have H0 := S.old w
  have hz1 : (⟨#[58]⟩ : ByteArray).size = 1 := rfl
  have hz2 : (⟨#[97]⟩ : ByteArray).size = 1 := rfl
  have hz3 : (⟨#[98]⟩ : ByteArray).size = 1 := rfl
  unfold DV at hx
  refine enter 36 Tryz.func42 rfl rfl rfl ?_
  refine g_weak [(0, .int .i64 round), (1, .string seed), (2, .agg #[.int .i64 (x.id), .bool x.intr, .bool x.chk, .int .i64 (x.frm), .int .i64 (x.to), .int .i64 (x.lt), .int .i64 (x.since), .bool x.snb, .bool x.now, .bool x.seed])] ⟨rfl, rfl, rfl, trivial⟩ ?_
  refine g_seq ?_
  refine g_region ?_
  refine l_of (s_box H0 (wt0 rfl) rfl rfl rfl rfl ?_)
  intro g1 wq2 H3
  refine l_of (s_val (v := .string (⟨#[]⟩)) (wt0 rfl) rfl rfl (x_assign rfl rfl) ?_)
  refine g_nil ?_
  refine g_then ?_
  refine g_seq ?_
  refine g_anyY [] (fun wx => S wx [Ob g1 (.cells #[.int .i64 (x.id), .bool x.intr, .bool x.chk, .int .i64 (x.frm), .int .i64 (x.to), .int .i64 (x.lt), .int .i64 (x.since), .bool x.snb, .bool x.now, .bool x.seed] 30 (0, 0))]) (fun wx => S wx [Ob g1 (.cells #[.int .i64 (x.id), .bool x.intr, .bool x.chk, .int .i64 (x.frm), .int .i64 (x.to), .int .i64 (x.lt), .int .i64 (x.since), .bool x.snb, .bool x.now, .bool x.seed] 30 (0, 0))]) [] (by kernel_rfl) H3 (fun wq4 H5 => ?_)
  refine y_pure (v := .string seed) 0 rfl (wt0 rfl) rfl rfl rfl (by kernel_rfl) (by kernel_rfl) (by kernel_rfl) (by kernel_rfl) (fun wx => x_move rfl rfl) ?_
  have hsz6 : (seed ++ (⟨#[58]⟩ : ByteArray)).size = seed.size + (⟨#[58]⟩ : ByteArray).size := ByteArray.size_append
  refine y_pure (v := .string (seed ++ (⟨#[58]⟩ : ByteArray))) 1 rfl (wt0 rfl) rfl rfl rfl (by kernel_rfl) (by kernel_rfl) (by kernel_rfl) (by kernel_rfl) (fun wx => x_bin rfl rfl rfl (b_cat (by omega))) ?_
  refine y_pure (v := .int .i64 round) 2 rfl (wt0 rfl) rfl rfl rfl (by kernel_rfl) (by kernel_rfl) (by kernel_rfl) (by kernel_rfl) (fun wx => x_move rfl rfl) ?_
  refine y_pure (v := .int .i64 (round / 3)) 3 rfl (wt0 rfl) rfl rfl rfl (by kernel_rfl) (by kernel_rfl) (by kernel_rfl) (by kernel_rfl) (fun wx => x_bin rfl rfl rfl (b_quo (by omega) (quo64 (by omega)))) ?_
  refine y_pure (v := .pointer (some ⟨g1, 0, none⟩)) 7 rfl (wt0 rfl) rfl rfl rfl (by kernel_rfl) (by kernel_rfl) (by kernel_rfl) (by kernel_rfl) (fun wx => x_fieldAddr rfl rfl fo30_0 rfl) ?_
  refine y_take (v := .int .i64 (x.id)) 8 rfl (wt0 rfl) rfl rfl rfl (by kernel_rfl) (by kernel_rfl) (by kernel_rfl) (by kernel_rfl) (by kernel_rfl) (H5.mask [true, false]) (fun wx H => x_load1 H 0 rfl rfl Tryz.underlying3 rfl rfl rfl) ?_
  refine y_one (i := 4) (by kernel_rfl) rfl ?_
  refine s_call (wt0 rfl) (x_call' rfl rfl cl72) (itoa_s (round / 3) (by omega) (by omega) _ (H5.tab (k := 1) rfl ht)) ?_
  rintro _ wq8 ⟨rfl, H9⟩
  replace H9 : S wq8 [Ob g1 (.cells #[.int .i64 (x.id), .bool x.intr, .bool x.chk, .int .i64 (x.frm), .int .i64 (x.to), .int .i64 (x.lt), .int .i64 (x.since), .bool x.snb, .bool x.now, .bool x.seed] 30 (0, 0)), Old w no] := H5.absorb (new := []) H9
  have hit7 := itS_size (n := round / 3) (by omega) (by omega)
  refine b_ret rfl rfl ?_
  refine y_k (H9.mask [true, false]) (H9.mask [true, false]) ?_
  have hsz10 : ((seed ++ (⟨#[58]⟩ : ByteArray)) ++ (itS (round / 3))).size = (seed ++ (⟨#[58]⟩ : ByteArray)).size + (itS (round / 3)).size := ByteArray.size_append
  refine y_pure (v := .string ((seed ++ (⟨#[58]⟩ : ByteArray)) ++ (itS (round / 3)))) 5 rfl (wt0 rfl) rfl rfl rfl (by kernel_rfl) (by kernel_rfl) (by kernel_rfl) (by kernel_rfl) (fun wx => x_bin rfl rfl rfl (b_cat (by omega))) ?_
  have hsz11 : (((seed ++ (⟨#[58]⟩ : ByteArray)) ++ (itS (round / 3))) ++ (⟨#[58]⟩ : ByteArray)).size = ((seed ++ (⟨#[58]⟩ : ByteArray)) ++ (itS (round / 3))).size + (⟨#[58]⟩ : ByteArray).size := ByteArray.size_append
  refine y_pure (v := .string (((seed ++ (⟨#[58]⟩ : ByteArray)) ++ (itS (round / 3))) ++ (⟨#[58]⟩ : ByteArray))) 6 rfl (wt0 rfl) rfl rfl rfl (by kernel_rfl) (by kernel_rfl) (by kernel_rfl) (by kernel_rfl) (fun wx => x_bin rfl rfl rfl (b_cat (by omega))) ?_
  refine y_one (i := 9) (by kernel_rfl) rfl ?_
  refine s_call (wt0 rfl) (x_call' rfl rfl cl72) (itoa_s x.id (by omega) (by omega) _ (H9.tab (k := 1) rfl ht)) ?_
  rintro _ wq13 ⟨rfl, H14⟩
  replace H14 : S wq13 [Ob g1 (.cells #[.int .i64 (x.id), .bool x.intr, .bool x.chk, .int .i64 (x.frm), .int .i64 (x.to), .int .i64 (x.lt), .int .i64 (x.since), .bool x.snb, .bool x.now, .bool x.seed] 30 (0, 0)), Old w no] := H9.absorb (new := []) H14
  have hit12 := itS_size (n := x.id) (by omega) (by omega)
  refine b_ret rfl rfl ?_
  refine y_k (H14.mask [true, false]) (H14.mask [true, false]) ?_
  have hsz15 : ((((seed ++ (⟨#[58]⟩ : ByteArray)) ++ (itS (round / 3))) ++ (⟨#[58]⟩ : ByteArray)) ++ (itS x.id)).size = (((seed ++ (⟨#[58]⟩ : ByteArray)) ++ (itS (round / 3))) ++ (⟨#[58]⟩ : ByteArray)).size + (itS x.id).size := ByteArray.size_append
  refine y_pure (v := .string ((((seed ++ (⟨#[58]⟩ : ByteArray)) ++ (itS (round / 3))) ++ (⟨#[58]⟩ : ByteArray)) ++ (itS x.id))) 10 rfl (wt0 rfl) rfl rfl rfl (by kernel_rfl) (by kernel_rfl) (by kernel_rfl) (by kernel_rfl) (fun wx => x_bin rfl rfl rfl (b_cat (by omega))) ?_
  refine y_pure (v := .string ((((seed ++ (⟨#[58]⟩ : ByteArray)) ++ (itS (round / 3))) ++ (⟨#[58]⟩ : ByteArray)) ++ (itS x.id))) 11 rfl (wt0 rfl) rfl rfl rfl (by kernel_rfl) (by kernel_rfl) (by kernel_rfl) (by kernel_rfl) (fun wx => x_assign rfl rfl) ?_
  refine y_done (by kernel_rfl) ?_
  refine g_then ?_
  refine g_weak [(0, .int .i64 round), (5, .pointer (some ⟨g1, 0, none⟩)), (7, .string ((((seed ++ (⟨#[58]⟩ : ByteArray)) ++ (itS (round / 3))) ++ (⟨#[58]⟩ : ByteArray)) ++ (itS x.id)))] ⟨rfl, rfl, rfl, trivial⟩ ?_
  refine g_seq ?_
  refine g_region ?_
  refine l_of (s_val (v := .string ((((seed ++ (⟨#[58]⟩ : ByteArray)) ++ (itS (round / 3))) ++ (⟨#[58]⟩ : ByteArray)) ++ (itS x.id))) (wt0 rfl) rfl rfl (x_move rfl rfl) ?_)
  refine l_of (s_call (wt0 rfl) (x_call' rfl rfl cl79) (old_r ((((seed ++ (⟨#[58]⟩ : ByteArray)) ++ (itS (round / 3))) ++ (⟨#[58]⟩ : ByteArray)) ++ (itS x.id)) (by omega) _) ?_)
  rintro _ wq16 ⟨rfl, H17⟩
  replace H17 : S wq16 [Ob g1 (.cells #[.int .i64 (x.id), .bool x.intr, .bool x.chk, .int .i64 (x.frm), .int .i64 (x.to), .int .i64 (x.lt), .int .i64 (x.since), .bool x.snb, .bool x.now, .bool x.seed] 30 (0, 0)), Old w no] := H14.absorb (new := []) H17
  refine b_ret rfl rfl ?_
  refine l_of (s_val (v := .string ((oldS ((((seed ++ (⟨#[58]⟩ : ByteArray)) ++ (itS (round / 3))) ++ (⟨#[58]⟩ : ByteArray)) ++ (itS x.id))))) (wt0 rfl) rfl rfl (x_assign rfl rfl) ?_)
  refine g_nil ?_
  refine g_then ?_
  refine g_seq ?_
  refine g_seq ?_
  refine g_region ?_
  refine l_of (s_val (v := .int .i64 round) (wt0 rfl) rfl rfl (x_move rfl rfl) ?_)
  refine l_of (s_val (v := .pointer (some ⟨g1, 6, none⟩)) (wt0 rfl) rfl rfl (x_fieldAddr rfl rfl fo30_6 rfl) ?_)
  refine l_of (s_val (v := .int .i64 (x.since)) (wt0 rfl) rfl rfl (x_load1 H17 0 rfl rfl Tryz.underlying3 rfl rfl rfl) ?_)
  refine l_of (s_val (v := .int .i64 (round - x.since)) (wt0 rfl) rfl rfl (x_bin rfl rfl rfl (b_sub (w64 (by omega)))) ?_)
  refine l_of (s_val (v := .bool (decide ((round - x.since : Int) < 3))) (wt0 rfl) rfl rfl (x_bin rfl rfl rfl b_lss) ?_)
  refine g_nil ?_
  refine g_then ?_
  by_cases hb18 : (round - x.since : Int) < 3
  · skip
    refine g_cond_t rfl (decide_eq_true hb18) ?_
    refine g_region ?_
    refine l_of (s_val (v := .string ((oldS ((((seed ++ (⟨#[58]⟩ : ByteArray)) ++ (itS (round / 3))) ++ (⟨#[58]⟩ : ByteArray)) ++ (itS x.id))))) (wt0 rfl) rfl rfl (x_move rfl rfl) ?_)
    refine l_of (s_val (v := .string ((((seed ++ (⟨#[58]⟩ : ByteArray)) ++ (itS (round / 3))) ++ (⟨#[58]⟩ : ByteArray)) ++ (itS x.id))) (wt0 rfl) rfl rfl (x_move rfl rfl) ?_)
    have hsz19 : (((((seed ++ (⟨#[58]⟩ : ByteArray)) ++ (itS (round / 3))) ++ (⟨#[58]⟩ : ByteArray)) ++ (itS x.id)) ++ (⟨#[97]⟩ : ByteArray)).size = ((((seed ++ (⟨#[58]⟩ : ByteArray)) ++ (itS (round / 3))) ++ (⟨#[58]⟩ : ByteArray)) ++ (itS x.id)).size + (⟨#[97]⟩ : ByteArray).size := ByteArray.size_append
    refine l_of (s_val (v := .string (((((seed ++ (⟨#[58]⟩ : ByteArray)) ++ (itS (round / 3))) ++ (⟨#[58]⟩ : ByteArray)) ++ (itS x.id)) ++ (⟨#[97]⟩ : ByteArray))) (wt0 rfl) rfl rfl (x_bin rfl rfl rfl (b_cat (by omega))) ?_)
    refine l_of (s_call (wt0 rfl) (x_call' rfl rfl cl79) (old_r (((((seed ++ (⟨#[58]⟩ : ByteArray)) ++ (itS (round / 3))) ++ (⟨#[58]⟩ : ByteArray)) ++ (itS x.id)) ++ (⟨#[97]⟩ : ByteArray)) (by omega) _) ?_)
    rintro _ wq20 ⟨rfl, H21⟩
    replace H21 : S wq20 [Ob g1 (.cells #[.int .i64 (x.id), .bool x.intr, .bool x.chk, .int .i64 (x.frm), .int .i64 (x.to), .int .i64 (x.lt), .int .i64 (x.since), .bool x.snb, .bool x.now, .bool x.seed] 30 (0, 0)), Old w no] := H17.absorb (new := []) H21
    refine b_ret rfl rfl ?_
    refine l_of (s_val (v := .string ((((seed ++ (⟨#[58]⟩ : ByteArray)) ++ (itS (round / 3))) ++ (⟨#[58]⟩ : ByteArray)) ++ (itS x.id))) (wt0 rfl) rfl rfl (x_move rfl rfl) ?_)
    have hsz22 : (((((seed ++ (⟨#[58]⟩ : ByteArray)) ++ (itS (round / 3))) ++ (⟨#[58]⟩ : ByteArray)) ++ (itS x.id)) ++ (⟨#[98]⟩ : ByteArray)).size = ((((seed ++ (⟨#[58]⟩ : ByteArray)) ++ (itS (round / 3))) ++ (⟨#[58]⟩ : ByteArray)) ++ (itS x.id)).size + (⟨#[98]⟩ : ByteArray).size := ByteArray.size_append
    refine l_of (s_val (v := .string (((((seed ++ (⟨#[58]⟩ : ByteArray)) ++ (itS (round / 3))) ++ (⟨#[58]⟩ : ByteArray)) ++ (itS x.id)) ++ (⟨#[98]⟩ : ByteArray))) (wt0 rfl) rfl rfl (x_bin rfl rfl rfl (b_cat (by omega))) ?_)
    refine l_of (s_call (wt0 rfl) (x_call' rfl rfl cl79) (old_r (((((seed ++ (⟨#[58]⟩ : ByteArray)) ++ (itS (round / 3))) ++ (⟨#[58]⟩ : ByteArray)) ++ (itS x.id)) ++ (⟨#[98]⟩ : ByteArray)) (by omega) _) ?_)
    rintro _ wq23 ⟨rfl, H24⟩
    replace H24 : S wq23 [Ob g1 (.cells #[.int .i64 (x.id), .bool x.intr, .bool x.chk, .int .i64 (x.frm), .int .i64 (x.to), .int .i64 (x.lt), .int .i64 (x.since), .bool x.snb, .bool x.now, .bool x.seed] 30 (0, 0)), Old w no] := H21.absorb (new := []) H24
    refine b_ret rfl rfl ?_
    refine l_of (s_val (v := .string ((minSt (minSt (oldS ((((seed ++ (⟨#[58]⟩ : ByteArray)) ++ (itS (round / 3))) ++ (⟨#[58]⟩ : ByteArray)) ++ (itS x.id))) (oldS (((((seed ++ (⟨#[58]⟩ : ByteArray)) ++ (itS (round / 3))) ++ (⟨#[58]⟩ : ByteArray)) ++ (itS x.id)) ++ (⟨#[97]⟩ : ByteArray)))) (oldS (((((seed ++ (⟨#[58]⟩ : ByteArray)) ++ (itS (round / 3))) ++ (⟨#[58]⟩ : ByteArray)) ++ (itS x.id)) ++ (⟨#[98]⟩ : ByteArray)))))) (wt0 rfl) rfl rfl (x_min3S rfl rfl rfl rfl) ?_)
    refine l_of (s_val (v := .string ((minSt (minSt (oldS ((((seed ++ (⟨#[58]⟩ : ByteArray)) ++ (itS (round / 3))) ++ (⟨#[58]⟩ : ByteArray)) ++ (itS x.id))) (oldS (((((seed ++ (⟨#[58]⟩ : ByteArray)) ++ (itS (round / 3))) ++ (⟨#[58]⟩ : ByteArray)) ++ (itS x.id)) ++ (⟨#[97]⟩ : ByteArray)))) (oldS (((((seed ++ (⟨#[58]⟩ : ByteArray)) ++ (itS (round / 3))) ++ (⟨#[58]⟩ : ByteArray)) ++ (itS x.id)) ++ (⟨#[98]⟩ : ByteArray)))))) (wt0 rfl) rfl rfl (x_assign rfl rfl) ?_)
    refine g_nil ?_
    refine g_then ?_
    refine g_weak [(8, .string ((minSt (minSt (oldS ((((seed ++ (⟨#[58]⟩ : ByteArray)) ++ (itS (round / 3))) ++ (⟨#[58]⟩ : ByteArray)) ++ (itS x.id))) (oldS (((((seed ++ (⟨#[58]⟩ : ByteArray)) ++ (itS (round / 3))) ++ (⟨#[58]⟩ : ByteArray)) ++ (itS x.id)) ++ (⟨#[97]⟩ : ByteArray)))) (oldS (((((seed ++ (⟨#[58]⟩ : ByteArray)) ++ (itS (round / 3))) ++ (⟨#[58]⟩ : ByteArray)) ++ (itS x.id)) ++ (⟨#[98]⟩ : ByteArray))))))] ⟨rfl, trivial⟩ ?_
    refine g_seq ?_
    refine g_region ?_
    refine l_of (s_val (v := .string ((minSt (minSt (oldS ((((seed ++ (⟨#[58]⟩ : ByteArray)) ++ (itS (round / 3))) ++ (⟨#[58]⟩ : ByteArray)) ++ (itS x.id))) (oldS (((((seed ++ (⟨#[58]⟩ : ByteArray)) ++ (itS (round / 3))) ++ (⟨#[58]⟩ : ByteArray)) ++ (itS x.id)) ++ (⟨#[97]⟩ : ByteArray)))) (oldS (((((seed ++ (⟨#[58]⟩ : ByteArray)) ++ (itS (round / 3))) ++ (⟨#[58]⟩ : ByteArray)) ++ (itS x.id)) ++ (⟨#[98]⟩ : ByteArray)))))) (wt0 rfl) rfl rfl (x_move rfl rfl) ?_)
    refine l_of (s_val (v := .string ((minSt (minSt (oldS ((((seed ++ (⟨#[58]⟩ : ByteArray)) ++ (itS (round / 3))) ++ (⟨#[58]⟩ : ByteArray)) ++ (itS x.id))) (oldS (((((seed ++ (⟨#[58]⟩ : ByteArray)) ++ (itS (round / 3))) ++ (⟨#[58]⟩ : ByteArray)) ++ (itS x.id)) ++ (⟨#[97]⟩ : ByteArray)))) (oldS (((((seed ++ (⟨#[58]⟩ : ByteArray)) ++ (itS (round / 3))) ++ (⟨#[58]⟩ : ByteArray)) ++ (itS x.id)) ++ (⟨#[98]⟩ : ByteArray)))))) (wt0 rfl) rfl rfl (x_assign rfl rfl) ?_)
    refine g_nil ?_
    refine g_then ?_
    refine g_ret ?_
    refine fin_ret [.tmp 6] [.string ((minSt (minSt (oldS ((((seed ++ (⟨#[58]⟩ : ByteArray)) ++ (itS (round / 3))) ++ (⟨#[58]⟩ : ByteArray)) ++ (itS x.id))) (oldS (((((seed ++ (⟨#[58]⟩ : ByteArray)) ++ (itS (round / 3))) ++ (⟨#[58]⟩ : ByteArray)) ++ (itS x.id)) ++ (⟨#[97]⟩ : ByteArray)))) (oldS (((((seed ++ (⟨#[58]⟩ : ByteArray)) ++ (itS (round / 3))) ++ (⟨#[58]⟩ : ByteArray)) ++ (itS x.id)) ++ (⟨#[98]⟩ : ByteArray)))))] rfl ⟨rfl, trivial⟩ ?_
    exact ⟨by unfold luckS nameS; rw [if_pos hb18]; rfl, H24.mask [false, true]⟩
  · skip
    refine g_cond_f rfl (decide_eq_false hb18) ?_
    refine g_skip ?_
    refine g_then ?_
    refine g_seq ?_
    refine g_region ?_
    refine l_of (s_val (v := .string ((oldS ((((seed ++ (⟨#[58]⟩ : ByteArray)) ++ (itS (round / 3))) ++ (⟨#[58]⟩ : ByteArray)) ++ (itS x.id))))) (wt0 rfl) rfl rfl (x_move rfl rfl) ?_)
    refine l_of (s_val (v := .string ((oldS ((((seed ++ (⟨#[58]⟩ : ByteArray)) ++ (itS (round / 3))) ++ (⟨#[58]⟩ : ByteArray)) ++ (itS x.id))))) (wt0 rfl) rfl rfl (x_assign rfl rfl) ?_)
    refine g_nil ?_
    refine g_then ?_
    refine g_weak [(6, .string ((oldS ((((seed ++ (⟨#[58]⟩ : ByteArray)) ++ (itS (round / 3))) ++ (⟨#[58]⟩ : ByteArray)) ++ (itS x.id)))))] ⟨rfl, trivial⟩ ?_
    refine g_ret ?_
    refine fin_ret [.tmp 6] [.string ((oldS ((((seed ++ (⟨#[58]⟩ : ByteArray)) ++ (itS (round / 3))) ++ (⟨#[58]⟩ : ByteArray)) ++ (itS x.id))))] rfl ⟨rfl, trivial⟩ ?_
    exact ⟨by unfold luckS nameS; rw [if_neg hb18]; rfl, H17.mask [false, true]⟩
end Go.Proofs.YthfglkkjkpdkpaaGreatDoor
