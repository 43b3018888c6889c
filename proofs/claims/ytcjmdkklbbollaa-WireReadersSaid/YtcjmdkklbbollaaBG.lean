import Derived.Test.YtcjmdkklbbollaaBA
set_option linter.unusedSimpArgs false
set_option linter.unusedVariables false
namespace Go.Proofs.Ytcjmdkklbbollaa
open Go.RowKit

/-- How many bytes are left, by the reference. -/
def leftS (g : Bool) (fed : ByteArray) : Int :=
  if (0 : Int) ≤ (wholeR g fed).wrong then 0
  else if (0 : Int) < (wholeR g fed).ends.length then (fed.size : Int) - (wholeR g fed).ends.getD (((wholeR g fed).ends.length : Int) - 1).toNat 0
  else (fed.size : Int) - (wholeR g fed).start
theorem readAll_ends : ∀ (n : Nat) (fed : ByteArray) (a : Nat) (l : List M) (es : List Int), a ≤ fed.size → (∀ z ∈ es, 0 ≤ z ∧ z ≤ fed.size) → ∀ z ∈ (readAll n fed a l es).2.1, 0 ≤ z ∧ z ≤ fed.size
  | 0, _, _, _, _, _, h => h
  | n + 1, fed, a, l, es, ha, h => by
    have hp : (pieceA fed a).size ≤ 4204 := by rw [ByteArray.size_extract]; omega
    have hp2 : (pieceA fed a).size ≤ fed.size - a := by rw [ByteArray.size_extract]; omega
    have hd := dec_used (pieceA fed a) (by omega)
    by_cases h12 : (decS (pieceA fed a)).2.2.2 = 12
    · rw [readAll, if_pos h12]; exact h
    by_cases h0 : (decS (pieceA fed a)).2.2.2 = 0
    · rw [readAll, if_neg h12, if_pos h0]
      have hu := hd.1 h0
      refine readAll_ends n fed (a + (decS (pieceA fed a)).2.1.toNat) _ _ (by omega) (fun z hz => ?_)
      rcases List.mem_append.1 hz with hz | hz
      · exact h z hz
      · have hz : z = (a : Int) + (decS (pieceA fed a)).2.1 := List.mem_singleton.1 hz
        omega
    · rw [readAll, if_neg h12, if_neg h0]; exact h
theorem whole_ends (g : Bool) (fed : ByteArray) : (∀ z ∈ (wholeR g fed).ends, 0 ≤ z ∧ z ≤ fed.size) ∧ 0 ≤ (wholeR g fed).start ∧ (wholeR g fed).start ≤ fed.size ∧ (wholeR g fed).ends.length = (wholeR g fed).list.length := by
  have hh : (helloA fed).size ≤ fed.size := by rw [ByteArray.size_extract]; omega
  have h68 : (helloA fed).size ≤ 68 := by rw [ByteArray.size_extract]; omega
  have hu := read_used (helloA fed) (by omega)
  have key : ∀ (a : Nat), a ≤ fed.size → ∀ q, readAll (fed.size + 1) fed a [] [] = q → (∀ z ∈ q.2.1, 0 ≤ z ∧ z ≤ fed.size) ∧ q.2.1.length = q.1.length := fun a ha q hq => by
    subst hq
    exact ⟨readAll_ends _ _ _ _ _ ha (fun z hz => by cases hz), readAll_len _ _ _ _ _ rfl⟩
  obtain ⟨q, hq⟩ : ∃ q, readAll (fed.size + 1) fed 68 [] [] = q := ⟨_, rfl⟩
  obtain ⟨q0, hq0⟩ : ∃ q, readAll (fed.size + 1) fed 0 [] [] = q := ⟨_, rfl⟩
  have k0 := key 0 (by omega) q0 hq0
  unfold wholeR
  rw [hq, hq0]
  by_cases hg : g = true
  · rw [if_pos hg]
    by_cases h12 : (readR (helloA fed)).2.2.2 = 12
    · rw [if_pos h12]
      exact ⟨(fun z hz => by cases hz), Int.le_refl _, (by show (0 : Int) ≤ _; omega), rfl⟩
    rw [if_neg h12]
    by_cases h0 : (readR (helloA fed)).2.2.2 = 0
    · rw [if_pos h0]
      have hv := hu.2.1 h0
      have k := key 68 (by omega) q hq
      exact ⟨k.1, (by show (0 : Int) ≤ 68; omega), (by show (68 : Int) ≤ _; omega), k.2⟩
    · rw [if_neg h0]
      exact ⟨(fun z hz => by cases hz), Int.le_refl _, (by show (0 : Int) ≤ _; omega), rfl⟩
  · rw [if_neg hg]
    exact ⟨k0.1, Int.le_refl _, (by show (0 : Int) ≤ _; omega), k0.2⟩
end Go.Proofs.Ytcjmdkklbbollaa
namespace Go.Proofs.Ytcjmdkklbbollaa
open Go.RowKit

theorem cl38 : callable Try.prog 38 = true := by kernel_rfl
set_option maxRecDepth 20000 in
set_option maxHeartbeats 4000000 in
set_option maxRecDepth 20000 in
theorem wrong_w (gr : Nat) (x : Int) (w : World) (hc : w.cell? ⟨gr, 12, none⟩ = some (.int .i64 x)) : Calls Try.prog 40 #[.pointer (some ⟨gr, 0, none⟩)] w fun e w' => e = .returned (.int .i64 x) ∧ S w' [Old w no] := by
  have H0 := S.old w
  refine enter 9 Try.func40 rfl rfl rfl ?_
  refine g_weak [(0, .pointer (some ⟨gr, 0, none⟩))] ⟨rfl, trivial⟩ ?_
  refine g_seq ?_
  refine g_region ?_
  refine l_of (s_val (v := .int .i64 0) (wt0 rfl) rfl rfl (x_assign rfl rfl) ?_)
  refine g_nil ?_
  refine g_then ?_
  refine g_seq ?_
  refine g_seq ?_
  refine g_region ?_
  refine l_of (s_val (v := .pointer (some ⟨gr, 0, none⟩)) (wt0 rfl) rfl rfl (x_move rfl rfl) ?_)
  refine l_of (s_val (v := .bool false) (wt0 rfl) rfl rfl (x_bin rfl rfl rfl (b_eqN (r := false) Try.underlying48 rfl)) ?_)
  refine g_nil ?_
  refine g_then ?_
  refine g_cond_f rfl rfl ?_
  refine g_skip ?_
  refine g_then ?_
  refine g_seq ?_
  refine g_region ?_
  refine l_of (s_val (v := .pointer (some ⟨gr, 0, none⟩)) (wt0 rfl) rfl rfl (x_move rfl rfl) ?_)
  refine l_of (s_val (v := .pointer (some ⟨gr, 0, none⟩)) (wt0 rfl) rfl rfl (x_nilCheck rfl rfl) ?_)
  refine l_of (s_val (v := .pointer (some ⟨gr, 12, none⟩)) (wt0 rfl) rfl rfl (x_fieldAddr rfl rfl fo108_6 rfl) ?_)
  refine l_of (s_val (v := .int .i64 x) (wt0 rfl) rfl rfl (x_loadC rfl rfl Try.underlying3 rfl (H0.oldCell (k := 0) rfl hc id)) ?_)
  refine l_of (s_val (v := .int .i64 x) (wt0 rfl) rfl rfl (x_assign rfl rfl) ?_)
  refine g_nil ?_
  refine g_then ?_
  refine g_ret ?_
  refine fin_ret [.tmp 2] [.int .i64 x] rfl ⟨rfl, trivial⟩ ?_
  exact ⟨rfl, H0.mask [true]⟩
set_option maxRecDepth 20000 in
set_option maxHeartbeats 4000000 in
set_option maxRecDepth 20000 in
theorem left_w (gr : Nat) (x : ByteArray) (w : World) (hc : w.cell? ⟨gr, 10, none⟩ = some (.string x)) : Calls Try.prog 42 #[.pointer (some ⟨gr, 0, none⟩)] w fun e w' => e = .returned (.int .i64 x.size) ∧ S w' [Old w no] := by
  have H0 := S.old w
  refine enter 10 Try.func42 rfl rfl rfl ?_
  refine g_weak [(0, .pointer (some ⟨gr, 0, none⟩))] ⟨rfl, trivial⟩ ?_
  refine g_seq ?_
  refine g_region ?_
  refine l_of (s_val (v := .int .i64 0) (wt0 rfl) rfl rfl (x_assign rfl rfl) ?_)
  refine g_nil ?_
  refine g_then ?_
  refine g_seq ?_
  refine g_seq ?_
  refine g_region ?_
  refine l_of (s_val (v := .pointer (some ⟨gr, 0, none⟩)) (wt0 rfl) rfl rfl (x_move rfl rfl) ?_)
  refine l_of (s_val (v := .bool false) (wt0 rfl) rfl rfl (x_bin rfl rfl rfl (b_eqN (r := false) Try.underlying48 rfl)) ?_)
  refine g_nil ?_
  refine g_then ?_
  refine g_cond_f rfl rfl ?_
  refine g_skip ?_
  refine g_then ?_
  refine g_seq ?_
  refine g_region ?_
  refine l_of (s_val (v := .pointer (some ⟨gr, 0, none⟩)) (wt0 rfl) rfl rfl (x_move rfl rfl) ?_)
  refine l_of (s_val (v := .pointer (some ⟨gr, 0, none⟩)) (wt0 rfl) rfl rfl (x_nilCheck rfl rfl) ?_)
  refine l_of (s_val (v := .pointer (some ⟨gr, 10, none⟩)) (wt0 rfl) rfl rfl (x_fieldAddr rfl rfl fo108_4 rfl) ?_)
  refine l_of (s_val (v := .string x) (wt0 rfl) rfl rfl (x_loadC rfl rfl Try.underlying9 rfl (H0.oldCell (k := 0) rfl hc id)) ?_)
  refine l_of (s_val (v := .int .i64 ((x.size : Int))) (wt0 rfl) rfl rfl (x_lens rfl rfl Try.underlying9) ?_)
  refine l_of (s_val (v := .int .i64 ((x.size : Int))) (wt0 rfl) rfl rfl (x_assign rfl rfl) ?_)
  refine g_nil ?_
  refine g_then ?_
  refine g_ret ?_
  refine fin_ret [.tmp 2] [.int .i64 ((x.size : Int))] rfl ⟨rfl, trivial⟩ ?_
  exact ⟨rfl, H0.mask [true]⟩
set_option maxRecDepth 20000 in
set_option maxHeartbeats 4000000 in
theorem new_r (g : Bool)  (w : World) : Calls Try.prog 36 #[.bool g] w fun e w' => ∃ gw, e = .returned (.pointer (some ⟨gw, 0, none⟩)) ∧ S w' ([Ob gw (.cells #[.bool g, .string ⟨#[]⟩, .int .i64 0] 113 (0, 0))] ++ [Old w no]) := by
  have H0 := S.old w
  refine enter 6 Try.func36 rfl rfl rfl ?_
  refine g_weak [(0, .bool g)] ⟨rfl, trivial⟩ ?_
  refine g_seq ?_
  refine g_region ?_
  refine l_of (s_val (v := .pointer none) (wt0 rfl) rfl rfl (x_assign rfl rfl) ?_)
  refine g_nil ?_
  refine g_then ?_
  refine g_seq ?_
  refine g_region ?_
  refine l_of (s_val (v := .bool g) (wt0 rfl) rfl rfl (x_move rfl rfl) ?_)
  refine l_of (s_val (v := .agg #[.bool g, .string (⟨#[]⟩), .int .i64 0]) (wt0 rfl) rfl rfl (x_build (vs := [.bool g]) rfl rfl (cells := #[.bool g, .string (⟨#[]⟩), .int .i64 0]) (by kernel_rfl)) ?_)
  refine l_of (s_box H0 (wt0 rfl) rfl rfl rfl rfl ?_)
  intro g1 wq2 H3
  refine l_of (s_val (v := .pointer (some ⟨g1, 0, none⟩)) (wt0 rfl) rfl rfl (x_assign rfl rfl) ?_)
  refine g_nil ?_
  refine g_then ?_
  refine g_ret ?_
  refine fin_ret [.tmp 2] [.pointer (some ⟨g1, 0, none⟩)] rfl ⟨rfl, trivial⟩ ?_
  exact ⟨_, rfl, H3⟩
set_option maxRecDepth 20000 in
set_option maxHeartbeats 4000000 in
set_option maxRecDepth 20000 in
set_option maxHeartbeats 4000000 in
theorem left_r (gw : Nat) (g : Bool) (fed : ByteArray) (hf : fed.size ≤ 1099511627776) (w : World) (hc0 : w.cell? ⟨gw, 0, none⟩ = some (.bool g)) (hc1 : w.cell? ⟨gw, 1, none⟩ = some (.string fed)) : Calls Try.prog 43 #[.pointer (some ⟨gw, 0, none⟩)] w fun e w' => e = .returned (.int .i64 (leftS g fed)) ∧ S w' [Old w no] := by
  have H0 := S.old w
  have hwe := whole_ends g fed
  refine enter 35 Try.func43 rfl rfl rfl ?_
  refine g_weak [(0, .pointer (some ⟨gw, 0, none⟩))] ⟨rfl, trivial⟩ ?_
  refine g_seq ?_
  refine g_region ?_
  refine l_of (s_val (v := .int .i64 0) (wt0 rfl) rfl rfl (x_assign rfl rfl) ?_)
  refine g_nil ?_
  refine g_then ?_
  refine g_seq ?_
  refine g_region ?_
  refine l_of (s_val (v := .pointer (some ⟨gw, 0, none⟩)) (wt0 rfl) rfl rfl (x_move rfl rfl) ?_)
  refine l_of (s_call (wt0 rfl) (x_call' rfl rfl cl38) (whole_p gw g fed hf _ (H0.oldCell (k := 0) rfl hc0 id) (H0.oldCell (k := 0) rfl hc1 id)) ?_)
  rintro _ wq5 ⟨p1, c2, p3, c4, rfl, H6⟩
  replace H6 : S wq5 [Rw 33 8 p1 (wholeR g fed).list.length c2 (msgsV (wholeR g fed).list), Rw 3 1 p3 (wholeR g fed).ends.length c4 (zsV (wholeR g fed).ends), Old w no] := H0.absorb (new := [Rw 33 8 p1 (wholeR g fed).list.length c2 (msgsV (wholeR g fed).list), Rw 3 1 p3 (wholeR g fed).ends.length c4 (zsV (wholeR g fed).ends)]) H6
  have hel : (wholeR g fed).ends.length ≤ 9223372036854775807 := by have h1 := (H6.rw (k := 1) rfl).2.1; have h2 := (H6.rw (k := 1) rfl).2.2.1; unfold maxLen at h2; omega
  refine b_ret rfl rfl ?_
  refine l_of (s_alloc H6 (wt0 rfl) rfl rfl rfl ze62 ?_)
  intro g7 wq8 H9
  refine l_of (s_store H9 0 (wt0 rfl) rfl rfl rfl rfl rfl sz62 rfl rfl (cs' := #[.bool ((wholeR g fed).hello.e), .bool ((wholeR g fed).hello.f), .bool ((wholeR g fed).hello.n), .string ((wholeR g fed).hello.name), .string ((wholeR g fed).hello.peer), .bool ((wholeR g fed).greets), .slice p1 (wholeR g fed).list.length c2, .slice p3 (wholeR g fed).ends.length c4, .int .i64 ((wholeR g fed).start), .int .i64 ((wholeR g fed).wrong)]) rfl ?_)
  intro wq10 H11
  refine g_nil ?_
  refine g_then ?_
  refine g_seq ?_
  refine g_seq ?_
  refine g_region ?_
  refine l_of (s_val (v := .pointer (some ⟨g7, 9, none⟩)) (wt0 rfl) rfl rfl (x_fieldAddr rfl rfl fo62_5 rfl) ?_)
  refine l_of (s_val (v := .int .i64 ((wholeR g fed).wrong)) (wt0 rfl) rfl rfl (x_load1 H11 0 rfl rfl Try.underlying3 rfl rfl rfl) ?_)
  refine l_of (s_val (v := .bool (decide ((0 : Int) ≤ (wholeR g fed).wrong))) (wt0 rfl) rfl rfl (x_bin rfl rfl rfl b_geq) ?_)
  refine g_nil ?_
  refine g_then ?_
  by_cases hb12 : (0 : Int) ≤ (wholeR g fed).wrong
  · skip
    refine g_cond_t rfl (decide_eq_true hb12) ?_
    refine g_seq ?_
    refine g_region ?_
    refine l_of (s_val (v := .int .i64 0) (wt0 rfl) rfl rfl (x_assign rfl rfl) ?_)
    refine g_nil ?_
    refine g_then ?_
    refine g_ret ?_
    refine g_then_ret ?_
    refine fin_ret [.tmp 2] [.int .i64 0] rfl ⟨rfl, trivial⟩ ?_
    exact ⟨by unfold leftS; rw [if_pos hb12]; rfl, H11.mask [false, false, false, true]⟩
  · skip
    refine g_cond_f rfl (decide_eq_false hb12) ?_
    refine g_skip ?_
    refine g_then ?_
    refine g_seq ?_
    refine g_seq ?_
    refine g_region ?_
    refine l_of (s_val (v := .pointer (some ⟨g7, 7, none⟩)) (wt0 rfl) rfl rfl (x_fieldAddr rfl rfl fo62_3 rfl) ?_)
    refine l_of (s_val (v := .slice p3 (wholeR g fed).ends.length c4) (wt0 rfl) rfl rfl (x_load1 H11 0 rfl rfl Try.underlying60 rfl rfl rfl) ?_)
    refine l_of (s_val (v := .int .i64 (((wholeR g fed).ends.length : Int))) (wt0 rfl) rfl rfl (x_lenl rfl rfl Try.underlying60) ?_)
    refine l_of (s_val (v := .int .i64 (((wholeR g fed).ends.length : Int))) (wt0 rfl) rfl rfl (x_assign rfl rfl) ?_)
    refine g_nil ?_
    refine g_then ?_
    refine g_seq ?_
    refine g_region ?_
    refine l_of (s_val (v := .int .i64 (((wholeR g fed).ends.length : Int))) (wt0 rfl) rfl rfl (x_move rfl rfl) ?_)
    refine l_of (s_val (v := .bool (decide ((0 : Int) < ((wholeR g fed).ends.length : Int)))) (wt0 rfl) rfl rfl (x_bin rfl rfl rfl b_gtr) ?_)
    refine g_nil ?_
    refine g_then ?_
    by_cases hb13 : (0 : Int) < ((wholeR g fed).ends.length : Int)
    · skip
      have hz : (wholeR g fed).ends[(((wholeR g fed).ends.length : Int) - 1).toNat]? = some ((wholeR g fed).ends.getD (((wholeR g fed).ends.length : Int) - 1).toNat 0) := by rw [List.getD_eq_getElem?_getD, List.getElem?_eq_getElem (by omega)]; rfl
      have hzb := hwe.1 _ (List.mem_of_getElem? hz)
      refine g_cond_t rfl (decide_eq_true hb13) ?_
      refine g_seq ?_
      refine g_quiet (by kernel_rfl) (by kernel_rfl) H11 ?_
      refine q_val (v := .pointer (some ⟨gw, 0, none⟩)) (wt0 rfl) rfl rfl (fun wx H => x_move rfl rfl) ?_
      refine q_val (v := .pointer (some ⟨gw, 0, none⟩)) (wt0 rfl) rfl rfl (fun wx H => x_nilCheck rfl rfl) ?_
      refine q_val (v := .pointer (some ⟨gw, 1, none⟩)) (wt0 rfl) rfl rfl (fun wx H => x_fieldAddr rfl rfl fo113_1 rfl) ?_
      refine q_val (v := .string fed) (wt0 rfl) rfl rfl (fun wx H => x_loadC rfl rfl Try.underlying9 rfl (H.oldCell (k := 3) rfl hc1 id)) ?_
      refine q_val (v := .int .i64 ((fed.size : Int))) (wt0 rfl) rfl rfl (fun wx H => x_lens rfl rfl Try.underlying9) ?_
      refine q_val (v := .pointer (some ⟨g7, 7, none⟩)) (wt0 rfl) rfl rfl (fun wx H => x_fieldAddr rfl rfl fo62_3 rfl) ?_
      refine q_val (v := .slice p3 (wholeR g fed).ends.length c4) (wt0 rfl) rfl rfl (fun wx H => x_load1 H 0 rfl rfl Try.underlying60 rfl rfl rfl) ?_
      refine q_val (v := .int .i64 (((wholeR g fed).ends.length : Int))) (wt0 rfl) rfl rfl (fun wx H => x_move rfl rfl) ?_
      refine q_val (v := .int .i64 (((wholeR g fed).ends.length : Int) - 1)) (wt0 rfl) rfl rfl (fun wx H => x_bin rfl rfl rfl (b_sub (w64 (by omega)))) ?_
      refine q_val (v := .pointer ((p3).map fun q => q.add (((((wholeR g fed).ends.length : Int) - 1).toNat) * 1))) (wt0 rfl) rfl rfl (fun wx H => x_idxP ((((wholeR g fed).ends.length : Int) - 1).toNat) (H11.rwSome (k := 2) rfl (by omega)) rfl rfl rfl Try.underlying60 sz3 (by omega)) ?_
      refine q_val (v := .int .i64 (((wholeR g fed).ends.getD (((((wholeR g fed).ends.length : Int) - 1).toNat)) 0))) (wt0 rfl) rfl rfl (fun wx H => x_loadR1 ((((wholeR g fed).ends.length : Int) - 1).toNat) (H.rwReads (k := 2) rfl) (by omega) rfl rfl Try.underlying3 rfl (zsV_at hz)) ?_
      refine q_val (v := .int .i64 ((fed.size : Int) - ((wholeR g fed).ends.getD (((((wholeR g fed).ends.length : Int) - 1).toNat)) 0))) (wt0 rfl) rfl rfl (fun wx H => x_bin rfl rfl rfl (b_sub (w64 (by omega)))) ?_
      refine q_val (v := .int .i64 ((fed.size : Int) - ((wholeR g fed).ends.getD (((((wholeR g fed).ends.length : Int) - 1).toNat)) 0))) (wt0 rfl) rfl rfl (fun wx H => x_assign rfl rfl) ?_
      refine q_nil (fun wq14 H15 => ?_)
      refine g_then ?_
      refine g_weak [(2, .int .i64 ((fed.size : Int) - ((wholeR g fed).ends.getD (((((wholeR g fed).ends.length : Int) - 1).toNat)) 0)))] ⟨rfl, trivial⟩ ?_
      refine g_ret ?_
      refine g_then_ret ?_
      refine fin_ret [.tmp 2] [.int .i64 ((fed.size : Int) - ((wholeR g fed).ends.getD (((((wholeR g fed).ends.length : Int) - 1).toNat)) 0))] rfl ⟨rfl, trivial⟩ ?_
      exact ⟨by unfold leftS; rw [if_neg hb12, if_pos hb13]; rfl, H15.mask [false, false, false, true]⟩
    · skip
      refine g_cond_f rfl (decide_eq_false hb13) ?_
      refine g_skip ?_
      refine g_then ?_
      refine g_weak [(0, .pointer (some ⟨gw, 0, none⟩)), (3, .pointer (some ⟨g7, 0, none⟩))] ⟨rfl, rfl, trivial⟩ ?_
      refine g_seq ?_
      refine g_quiet (by kernel_rfl) (by kernel_rfl) H11 ?_
      refine q_val (v := .pointer (some ⟨gw, 0, none⟩)) (wt0 rfl) rfl rfl (fun wx H => x_move rfl rfl) ?_
      refine q_val (v := .pointer (some ⟨gw, 0, none⟩)) (wt0 rfl) rfl rfl (fun wx H => x_nilCheck rfl rfl) ?_
      refine q_val (v := .pointer (some ⟨gw, 1, none⟩)) (wt0 rfl) rfl rfl (fun wx H => x_fieldAddr rfl rfl fo113_1 rfl) ?_
      refine q_val (v := .string fed) (wt0 rfl) rfl rfl (fun wx H => x_loadC rfl rfl Try.underlying9 rfl (H.oldCell (k := 3) rfl hc1 id)) ?_
      refine q_val (v := .int .i64 ((fed.size : Int))) (wt0 rfl) rfl rfl (fun wx H => x_lens rfl rfl Try.underlying9) ?_
      refine q_val (v := .pointer (some ⟨g7, 8, none⟩)) (wt0 rfl) rfl rfl (fun wx H => x_fieldAddr rfl rfl fo62_4 rfl) ?_
      refine q_val (v := .int .i64 ((wholeR g fed).start)) (wt0 rfl) rfl rfl (fun wx H => x_load1 H 0 rfl rfl Try.underlying3 rfl rfl rfl) ?_
      refine q_val (v := .int .i64 ((fed.size : Int) - ((wholeR g fed).start))) (wt0 rfl) rfl rfl (fun wx H => x_bin rfl rfl rfl (b_sub (w64 (by omega)))) ?_
      refine q_val (v := .int .i64 ((fed.size : Int) - ((wholeR g fed).start))) (wt0 rfl) rfl rfl (fun wx H => x_assign rfl rfl) ?_
      refine q_nil (fun wq16 H17 => ?_)
      refine g_then ?_
      refine g_ret ?_
      refine fin_ret [.tmp 2] [.int .i64 ((fed.size : Int) - ((wholeR g fed).start))] rfl ⟨rfl, trivial⟩ ?_
      exact ⟨by unfold leftS; rw [if_neg hb12, if_neg hb13]; rfl, H17.mask [false, false, false, true]⟩
end Go.Proofs.Ytcjmdkklbbollaa
namespace Go.Proofs.Ytcjmdkklbbollaa
open Go.RowKit

/-- Next, by the reference: how many were taken, the message. -/
def nextS (g : Bool) (fed : ByteArray) (t : Nat) : Nat × M × Bool :=
  if (t : Int) = (wholeR g fed).list.length then (t, Zm, false) else (t + 1, (wholeR g fed).list.getD t Zm, true)
/-- Feed, by the reference. -/
def fromS (g : Bool) (fed : ByteArray) (t : Nat) : Int := if (0 : Int) < t then (wholeR g fed).ends.getD ((t : Int) - 1).toNat 0 else (wholeR g fed).start
def feedS (g : Bool) (fed : ByteArray) (t : Nat) (s : ByteArray) : ByteArray × Int :=
  if (65536 : Int) < s.size then (fed, 3)
  else if (0 : Int) ≤ (wholeR g fed).wrong then (fed, 12)
  else if (65536 : Int) < (fed.size : Int) - fromS g fed t + s.size then (fed, 4)
  else (fed ++ s, if (0 : Int) ≤ (wholeR g (fed ++ s)).wrong then 12 else 0)
def rfC (g : Bool) (fed : ByteArray) (t : Nat) : Array Value := #[.bool g, .string fed, .int .i64 (t : Int)]
end Go.Proofs.Ytcjmdkklbbollaa
namespace Go.Proofs.Ytcjmdkklbbollaa
open Go.RowKit

theorem fo113_2 : foO Try.prog 113 2 = some 2 := by kernel_rfl
set_option maxRecDepth 20000 in
set_option maxHeartbeats 4000000 in
set_option maxRecDepth 20000 in
set_option maxHeartbeats 4000000 in
theorem wait_r (gw : Nat) (g : Bool) (fed : ByteArray) (t : Nat) (hf : fed.size ≤ 1099511627776) (ht : t ≤ (wholeR g fed).list.length) (w : World) (hc0 : w.cell? ⟨gw, 0, none⟩ = some (.bool g)) (hc1 : w.cell? ⟨gw, 1, none⟩ = some (.string fed)) (hc2 : w.cell? ⟨gw, 2, none⟩ = some (.int .i64 (t : Int))) : Calls Try.prog 41 #[.pointer (some ⟨gw, 0, none⟩)] w fun e w' => e = .returned (.int .i64 (((wholeR g fed).list.length : Int) - (t : Int))) ∧ S w' [Old w no] := by
  have H0 := S.old w
  have hwe := whole_ends g fed
  refine enter 12 Try.func41 rfl rfl rfl ?_
  refine g_weak [(0, .pointer (some ⟨gw, 0, none⟩))] ⟨rfl, trivial⟩ ?_
  refine g_seq ?_
  refine g_region ?_
  refine l_of (s_val (v := .int .i64 0) (wt0 rfl) rfl rfl (x_assign rfl rfl) ?_)
  refine g_nil ?_
  refine g_then ?_
  refine g_seq ?_
  refine g_anyY [] (fun wx => S wx [Old w no]) (fun wx => S wx [Old w no]) [] (by kernel_rfl) H0 (fun wq1 H2 => ?_)
  refine y_pure (v := .pointer (some ⟨gw, 0, none⟩)) 0 rfl (wt0 rfl) rfl rfl rfl (by kernel_rfl) (by kernel_rfl) (by kernel_rfl) (by kernel_rfl) (fun wx => x_move rfl rfl) ?_
  refine y_pure (v := .pointer (some ⟨gw, 0, none⟩)) 4 rfl (wt0 rfl) rfl rfl rfl (by kernel_rfl) (by kernel_rfl) (by kernel_rfl) (by kernel_rfl) (fun wx => x_move rfl rfl) ?_
  refine y_pure (v := .pointer (some ⟨gw, 0, none⟩)) 5 rfl (wt0 rfl) rfl rfl rfl (by kernel_rfl) (by kernel_rfl) (by kernel_rfl) (by kernel_rfl) (fun wx => x_nilCheck rfl rfl) ?_
  refine y_pure (v := .pointer (some ⟨gw, 2, none⟩)) 6 rfl (wt0 rfl) rfl rfl rfl (by kernel_rfl) (by kernel_rfl) (by kernel_rfl) (by kernel_rfl) (fun wx => x_fieldAddr rfl rfl fo113_2 rfl) ?_
  refine y_take (v := .int .i64 ((t : Int))) 7 rfl (wt0 rfl) rfl rfl rfl (by kernel_rfl) (by kernel_rfl) (by kernel_rfl) (by kernel_rfl) (by kernel_rfl) H2 (fun wx H => x_loadC rfl rfl Try.underlying3 rfl (H.oldCell (k := 0) rfl hc2 id)) ?_
  refine y_one (i := 1) (by kernel_rfl) rfl ?_
  refine s_call (wt0 rfl) (x_call' rfl rfl cl38) (whole_p gw g fed hf _ (H2.oldCell (k := 0) rfl hc0 id) (H2.oldCell (k := 0) rfl hc1 id)) ?_
  rintro _ wq7 ⟨p3, c4, p5, c6, rfl, H8⟩
  replace H8 : S wq7 [Rw 33 8 p3 (wholeR g fed).list.length c4 (msgsV (wholeR g fed).list), Rw 3 1 p5 (wholeR g fed).ends.length c6 (zsV (wholeR g fed).ends), Old w no] := H2.absorb (new := [Rw 33 8 p3 (wholeR g fed).list.length c4 (msgsV (wholeR g fed).list), Rw 3 1 p5 (wholeR g fed).ends.length c6 (zsV (wholeR g fed).ends)]) H8
  have hel1 : (wholeR g fed).ends.length ≤ 9223372036854775807 := by have h1 := (H8.rw (k := 1) rfl).2.1; have h2 := (H8.rw (k := 1) rfl).2.2.1; unfold maxLen at h2; omega
  refine b_ret rfl rfl ?_
  refine y_k (H8.mask [false, false, true]) (H8.mask [false, false, true]) ?_
  refine y_pure (v := .slice p3 (wholeR g fed).list.length c4) 2 rfl (wt0 rfl) rfl rfl rfl (by kernel_rfl) (by kernel_rfl) (by kernel_rfl) (by kernel_rfl) (fun wx => x_field (n := 0) (m := 0) rfl rfl Try.underlying62 rfl (run_part1 Try.underlying46 rfl rfl)) ?_
  refine y_pure (v := .int .i64 (((wholeR g fed).list.length : Int))) 3 rfl (wt0 rfl) rfl rfl rfl (by kernel_rfl) (by kernel_rfl) (by kernel_rfl) (by kernel_rfl) (fun wx => x_lenl rfl rfl Try.underlying46) ?_
  refine y_pure (v := .int .i64 (((wholeR g fed).list.length : Int) - (t : Int))) 8 rfl (wt0 rfl) rfl rfl rfl (by kernel_rfl) (by kernel_rfl) (by kernel_rfl) (by kernel_rfl) (fun wx => x_bin rfl rfl rfl (b_sub (w64 (by omega)))) ?_
  refine y_pure (v := .int .i64 (((wholeR g fed).list.length : Int) - (t : Int))) 9 rfl (wt0 rfl) rfl rfl rfl (by kernel_rfl) (by kernel_rfl) (by kernel_rfl) (by kernel_rfl) (fun wx => x_assign rfl rfl) ?_
  refine y_done (by kernel_rfl) ?_
  refine g_then ?_
  refine g_ret ?_
  refine fin_ret [.tmp 2] [.int .i64 (((wholeR g fed).list.length : Int) - (t : Int))] rfl ⟨rfl, trivial⟩ ?_
  exact ⟨rfl, H8.mask [false, false, true]⟩
set_option maxRecDepth 20000 in
set_option maxHeartbeats 4000000 in
set_option maxRecDepth 20000 in
set_option maxHeartbeats 4000000 in
theorem next_r (gw : Nat) (g : Bool) (fed : ByteArray) (t : Nat) (hf : fed.size ≤ 1099511627776) (ht : t ≤ (wholeR g fed).list.length) (w : World) (HB : S w [Ob gw (.cells #[.bool g, .string fed, .int .i64 (t : Int)] 113 (0, 0))]) : Calls Try.prog 44 #[.pointer (some ⟨gw, 0, none⟩)] w fun e w' => e = .returned (.tuple #[.agg (nextS g fed t).2.1.cells, .bool (nextS g fed t).2.2]) ∧ S w' ([Ob gw (.cells (rfC g fed (nextS g fed t).1) 113 (0, 0))] ++ [Old w (fps [Ob gw (.cells #[.bool g, .string fed, .int .i64 (t : Int)] 113 (0, 0))])]) := by
  have H0 : S w [Ob gw (.cells #[.bool g, .string fed, .int .i64 ((t : Int))] 113 (0, 0)), Old w (fps [Ob gw (.cells #[.bool g, .string fed, .int .i64 (t : Int)] 113 (0, 0))])] := HB.beginI
  have hwe := whole_ends g fed
  refine enter 32 Try.func44 rfl rfl rfl ?_
  refine g_weak [(0, .pointer (some ⟨gw, 0, none⟩))] ⟨rfl, trivial⟩ ?_
  refine g_seq ?_
  refine g_region ?_
  refine l_of (s_alloc H0 (wt0 rfl) rfl rfl rfl ze33 ?_)
  intro g1 wq2 H3
  refine l_of (s_val (v := .bool false) (wt0 rfl) rfl rfl (x_assign rfl rfl) ?_)
  refine g_nil ?_
  refine g_then ?_
  refine g_seq ?_
  refine g_region ?_
  refine l_of (s_val (v := .pointer (some ⟨gw, 0, none⟩)) (wt0 rfl) rfl rfl (x_move rfl rfl) ?_)
  refine l_of (s_call (wt0 rfl) (x_call' rfl rfl cl38) (whole_p gw g fed hf _ (H3.cell (k := 1) rfl rfl) (H3.cell (k := 1) rfl rfl)) ?_)
  rintro _ wq8 ⟨p4, c5, p6, c7, rfl, H9⟩
  replace H9 : S wq8 [Rw 33 8 p4 (wholeR g fed).list.length c5 (msgsV (wholeR g fed).list), Rw 3 1 p6 (wholeR g fed).ends.length c7 (zsV (wholeR g fed).ends), Ob g1 (.cells #[.int .i64 0, .int .i64 0, .int .i64 0, .int .i64 0, .int .i64 0, .int .i64 0, .string (⟨#[]⟩), .string (⟨#[]⟩)] 33 (0, 0)), Ob gw (.cells #[.bool g, .string fed, .int .i64 ((t : Int))] 113 (0, 0)), Old w (fps [Ob gw (.cells #[.bool g, .string fed, .int .i64 (t : Int)] 113 (0, 0))])] := H3.absorb (new := [Rw 33 8 p4 (wholeR g fed).list.length c5 (msgsV (wholeR g fed).list), Rw 3 1 p6 (wholeR g fed).ends.length c7 (zsV (wholeR g fed).ends)]) H9
  have hel1 : (wholeR g fed).ends.length ≤ 9223372036854775807 := by have h1 := (H9.rw (k := 1) rfl).2.1; have h2 := (H9.rw (k := 1) rfl).2.2.1; unfold maxLen at h2; omega
  refine b_ret rfl rfl ?_
  refine l_of (s_alloc H9 (wt0 rfl) rfl rfl rfl ze62 ?_)
  intro g10 wq11 H12
  refine l_of (s_store H12 0 (wt0 rfl) rfl rfl rfl rfl rfl sz62 rfl rfl (cs' := #[.bool ((wholeR g fed).hello.e), .bool ((wholeR g fed).hello.f), .bool ((wholeR g fed).hello.n), .string ((wholeR g fed).hello.name), .string ((wholeR g fed).hello.peer), .bool ((wholeR g fed).greets), .slice p4 (wholeR g fed).list.length c5, .slice p6 (wholeR g fed).ends.length c7, .int .i64 ((wholeR g fed).start), .int .i64 ((wholeR g fed).wrong)]) rfl ?_)
  intro wq13 H14
  refine g_nil ?_
  refine g_then ?_
  refine g_seq ?_
  refine g_seq ?_
  refine g_quiet (by kernel_rfl) (by kernel_rfl) H14 ?_
  refine q_val (v := .pointer (some ⟨gw, 0, none⟩)) (wt0 rfl) rfl rfl (fun wx H => x_move rfl rfl) ?_
  refine q_val (v := .pointer (some ⟨gw, 0, none⟩)) (wt0 rfl) rfl rfl (fun wx H => x_nilCheck rfl rfl) ?_
  refine q_val (v := .pointer (some ⟨gw, 2, none⟩)) (wt0 rfl) rfl rfl (fun wx H => x_fieldAddr rfl rfl fo113_2 rfl) ?_
  refine q_val (v := .int .i64 ((t : Int))) (wt0 rfl) rfl rfl (fun wx H => x_load1 H 4 rfl rfl Try.underlying3 rfl rfl rfl) ?_
  refine q_val (v := .pointer (some ⟨g10, 6, none⟩)) (wt0 rfl) rfl rfl (fun wx H => x_fieldAddr rfl rfl fo62_2 rfl) ?_
  refine q_val (v := .slice p4 (wholeR g fed).list.length c5) (wt0 rfl) rfl rfl (fun wx H => x_load1 H 0 rfl rfl Try.underlying46 rfl rfl rfl) ?_
  refine q_val (v := .int .i64 (((wholeR g fed).list.length : Int))) (wt0 rfl) rfl rfl (fun wx H => x_lenl rfl rfl Try.underlying46) ?_
  refine q_val (v := .bool (decide (((t : Int) : Int) = ((wholeR g fed).list.length : Int)))) (wt0 rfl) rfl rfl (fun wx H => x_bin rfl rfl rfl b_eql) ?_
  refine q_nil (fun wq15 H16 => ?_)
  refine g_then ?_
  by_cases hb17 : ((t : Int) : Int) = ((wholeR g fed).list.length : Int)
  · skip
    refine g_cond_t rfl (decide_eq_true hb17) ?_
    refine g_seq ?_
    refine g_region ?_
    refine l_of (s_val (v := .agg #[.int .i64 0, .int .i64 0, .int .i64 0, .int .i64 0, .int .i64 0, .int .i64 0, .string (⟨#[]⟩), .string (⟨#[]⟩)]) (wt0 rfl) rfl rfl (x_build (vs := []) rfl rfl (cells := #[.int .i64 0, .int .i64 0, .int .i64 0, .int .i64 0, .int .i64 0, .int .i64 0, .string (⟨#[]⟩), .string (⟨#[]⟩)]) (by kernel_rfl)) ?_)
    refine l_of (s_store H16 3 (wt0 rfl) rfl rfl rfl rfl rfl sz33 rfl rfl (cs' := #[.int .i64 0, .int .i64 0, .int .i64 0, .int .i64 0, .int .i64 0, .int .i64 0, .string (⟨#[]⟩), .string (⟨#[]⟩)]) rfl ?_)
    intro wq18 H19
    refine l_of (s_val (v := .bool false) (wt0 rfl) rfl rfl (x_assign rfl rfl) ?_)
    refine g_nil ?_
    refine g_then ?_
    refine g_weak [(2, .pointer (some ⟨g1, 0, none⟩)), (3, .bool false)] ⟨rfl, rfl, trivial⟩ ?_
    refine g_ret ?_
    refine g_then_ret ?_
    refine fin_ret [.cell 2 33, .tmp 3] [.agg #[.int .i64 0, .int .i64 0, .int .i64 0, .int .i64 0, .int .i64 0, .int .i64 0, .string (⟨#[]⟩), .string (⟨#[]⟩)], .bool false] rfl ⟨⟨_, rfl, run_loadA (H19.ob (k := 3) rfl) Try.underlying33 rfl sz33 rfl rfl⟩, rfl, trivial⟩ ?_
    have hn : nextS g fed t = (t, Zm, false) := by unfold nextS; rw [if_pos hb17]
    rw [hn]
    exact ⟨rfl, H19.mask [false, false, false, false, true, true]⟩
  · skip
    have htl : t < (wholeR g fed).list.length := by omega
    have hm : (wholeR g fed).list[((t : Int) + 1 - 1).toNat]? = some ((wholeR g fed).list.getD t Zm) := by rw [show ((t : Int) + 1 - 1).toNat = t from by omega, List.getD_eq_getElem?_getD, List.getElem?_eq_getElem htl]; rfl
    have hsl := H16.rwSome (k := 1) rfl (by omega)
    refine g_cond_f rfl (decide_eq_false hb17) ?_
    refine g_skip ?_
    refine g_then ?_
    refine g_seq ?_
    refine g_region ?_
    refine l_of (s_val (v := .pointer (some ⟨gw, 0, none⟩)) (wt0 rfl) rfl rfl (x_move rfl rfl) ?_)
    refine l_of (s_val (v := .pointer (some ⟨gw, 0, none⟩)) (wt0 rfl) rfl rfl (x_nilCheck rfl rfl) ?_)
    refine l_of (s_val (v := .pointer (some ⟨gw, 2, none⟩)) (wt0 rfl) rfl rfl (x_fieldAddr rfl rfl fo113_2 rfl) ?_)
    refine l_of (s_val (v := .int .i64 ((t : Int))) (wt0 rfl) rfl rfl (x_load1 H16 4 rfl rfl Try.underlying3 rfl rfl rfl) ?_)
    refine l_of (s_val (v := .int .i64 ((t : Int) + 1)) (wt0 rfl) rfl rfl (x_bin rfl rfl rfl (b_add (w64 (by omega)))) ?_)
    refine l_of (s_val (v := .pointer (some ⟨gw, 0, none⟩)) (wt0 rfl) rfl rfl (x_nilCheck rfl rfl) ?_)
    refine l_of (s_val (v := .pointer (some ⟨gw, 2, none⟩)) (wt0 rfl) rfl rfl (x_fieldAddr rfl rfl fo113_2 rfl) ?_)
    refine l_of (s_store H16 4 (wt0 rfl) rfl rfl rfl rfl rfl sz3 rfl rfl (cs' := #[.bool g, .string fed, .int .i64 ((t : Int) + 1)]) rfl ?_)
    intro wq20 H21
    refine g_nil ?_
    refine g_then ?_
    refine g_weak [(0, .pointer (some ⟨gw, 0, none⟩)), (2, .pointer (some ⟨g1, 0, none⟩)), (4, .pointer (some ⟨g10, 0, none⟩))] ⟨rfl, rfl, rfl, trivial⟩ ?_
    refine g_seq ?_
    refine g_anyY [] (fun wx => S wx [Ob g10 (.cells #[.bool ((wholeR g fed).hello.e), .bool ((wholeR g fed).hello.f), .bool ((wholeR g fed).hello.n), .string ((wholeR g fed).hello.name), .string ((wholeR g fed).hello.peer), .bool ((wholeR g fed).greets), .slice p4 (wholeR g fed).list.length c5, .slice p6 (wholeR g fed).ends.length c7, .int .i64 ((wholeR g fed).start), .int .i64 ((wholeR g fed).wrong)] 62 (0, 0)), Rw 33 8 p4 (wholeR g fed).list.length c5 (msgsV (wholeR g fed).list), Rw 3 1 p6 (wholeR g fed).ends.length c7 (zsV (wholeR g fed).ends), Ob g1 (.cells #[.int .i64 0, .int .i64 0, .int .i64 0, .int .i64 0, .int .i64 0, .int .i64 0, .string (⟨#[]⟩), .string (⟨#[]⟩)] 33 (0, 0)), Ob gw (.cells #[.bool g, .string fed, .int .i64 ((t : Int) + 1)] 113 (0, 0)), Old w (fps [Ob gw (.cells #[.bool g, .string fed, .int .i64 (t : Int)] 113 (0, 0))])]) (fun wx => S wx [Ob g10 (.cells #[.bool ((wholeR g fed).hello.e), .bool ((wholeR g fed).hello.f), .bool ((wholeR g fed).hello.n), .string ((wholeR g fed).hello.name), .string ((wholeR g fed).hello.peer), .bool ((wholeR g fed).greets), .slice p4 (wholeR g fed).list.length c5, .slice p6 (wholeR g fed).ends.length c7, .int .i64 ((wholeR g fed).start), .int .i64 ((wholeR g fed).wrong)] 62 (0, 0)), Rw 33 8 p4 (wholeR g fed).list.length c5 (msgsV (wholeR g fed).list), Rw 3 1 p6 (wholeR g fed).ends.length c7 (zsV (wholeR g fed).ends), Ob gw (.cells #[.bool g, .string fed, .int .i64 ((t : Int) + 1)] 113 (0, 0)), Old w (fps [Ob gw (.cells #[.bool g, .string fed, .int .i64 (t : Int)] 113 (0, 0))])]) [9] (by kernel_rfl) H21 (fun wq22 H23 => ?_)
    refine y_pure (v := .pointer (some ⟨g10, 6, none⟩)) 0 rfl (wt0 rfl) rfl rfl rfl (by kernel_rfl) (by kernel_rfl) (by kernel_rfl) (by kernel_rfl) (fun wx => x_fieldAddr rfl rfl fo62_2 rfl) ?_
    refine y_take (v := .slice p4 (wholeR g fed).list.length c5) 1 rfl (wt0 rfl) rfl rfl rfl (by kernel_rfl) (by kernel_rfl) (by kernel_rfl) (by kernel_rfl) (by kernel_rfl) H23 (fun wx H => x_load1 H 0 rfl rfl Try.underlying46 rfl rfl rfl) ?_
    refine y_pure (v := .pointer (some ⟨gw, 0, none⟩)) 2 rfl (wt0 rfl) rfl rfl rfl (by kernel_rfl) (by kernel_rfl) (by kernel_rfl) (by kernel_rfl) (fun wx => x_move rfl rfl) ?_
    refine y_pure (v := .pointer (some ⟨gw, 0, none⟩)) 3 rfl (wt0 rfl) rfl rfl rfl (by kernel_rfl) (by kernel_rfl) (by kernel_rfl) (by kernel_rfl) (fun wx => x_nilCheck rfl rfl) ?_
    refine y_pure (v := .pointer (some ⟨gw, 2, none⟩)) 4 rfl (wt0 rfl) rfl rfl rfl (by kernel_rfl) (by kernel_rfl) (by kernel_rfl) (by kernel_rfl) (fun wx => x_fieldAddr rfl rfl fo113_2 rfl) ?_
    refine y_take (v := .int .i64 ((t : Int) + 1)) 5 rfl (wt0 rfl) rfl rfl rfl (by kernel_rfl) (by kernel_rfl) (by kernel_rfl) (by kernel_rfl) (by kernel_rfl) H23 (fun wx H => x_load1 H 4 rfl rfl Try.underlying3 rfl rfl rfl) ?_
    refine y_pure (v := .int .i64 (((t : Int) + 1) - 1)) 6 rfl (wt0 rfl) rfl rfl rfl (by kernel_rfl) (by kernel_rfl) (by kernel_rfl) (by kernel_rfl) (fun wx => x_bin rfl rfl rfl (b_sub (w64 (by omega)))) ?_
    refine y_pure (v := .pointer ((p4).map fun q => q.add (((((t : Int) + 1) - 1).toNat) * 8))) 7 rfl (wt0 rfl) rfl rfl rfl (by kernel_rfl) (by kernel_rfl) (by kernel_rfl) (by kernel_rfl) (fun wx => x_idxP ((((t : Int) + 1) - 1).toNat) (hsl) rfl rfl rfl Try.underlying46 sz33 (by omega)) ?_
    refine y_take (v := .agg ((wholeR g fed).list.getD t Zm).cells) 8 rfl (wt0 rfl) rfl rfl rfl (by kernel_rfl) (by kernel_rfl) (by kernel_rfl) (by kernel_rfl) (by kernel_rfl) H23 (fun wx H => x_loadRA (vs := cellsL ((wholeR g fed).list.getD t Zm)) ((((t : Int) + 1) - 1).toNat) (H.rwReads (k := 1) rfl) (by omega) rfl rfl Try.underlying33 rfl sz33 (by rfl) (flat_at (fun a _ => cellsL_len a) hm)) ?_
    refine y_one (i := 9) (by kernel_rfl) rfl ?_
    refine s_store H23 3 (wt0 rfl) rfl rfl rfl rfl rfl sz33 rfl rfl (cs' := ((wholeR g fed).list.getD t Zm).cells) rfl ?_
    intro wq24 H25
    refine y_kt rfl (H25.mask [true, true, true, false, true, true]) ?_
    refine y_pure (v := .bool true) 10 rfl (wt0 rfl) rfl rfl rfl (by kernel_rfl) (by kernel_rfl) (by kernel_rfl) (by kernel_rfl) (fun wx => x_assign rfl rfl) ?_
    refine y_done (by kernel_rfl) ?_
    refine g_then ?_
    refine g_ret ?_
    refine fin_ret [.cell 2 33, .tmp 3] [.agg ((wholeR g fed).list.getD t Zm).cells, .bool true] rfl ⟨⟨_, rfl, run_loadA (H25.ob (k := 3) rfl) Try.underlying33 rfl sz33 rfl rfl⟩, rfl, trivial⟩ ?_
    have hn : nextS g fed t = (t + 1, (wholeR g fed).list.getD t Zm, true) := by unfold nextS; rw [if_neg hb17]
    rw [hn]
    exact ⟨rfl, H25.mask [false, false, false, false, true, true]⟩
end Go.Proofs.Ytcjmdkklbbollaa
namespace Go.Proofs.Ytcjmdkklbbollaa
open Go.RowKit

set_option maxRecDepth 20000 in
set_option maxHeartbeats 4000000 in
set_option maxRecDepth 20000 in
set_option maxHeartbeats 4000000 in
theorem feed_r (gw : Nat) (g : Bool) (fed : ByteArray) (t : Nat) (hf : fed.size ≤ 1099511627776) (ht : t ≤ (wholeR g fed).list.length) (s : ByteArray) (hB : fed.size + s.size ≤ 1099511627776) (w : World) (HB : S w [Ob gw (.cells #[.bool g, .string fed, .int .i64 (t : Int)] 113 (0, 0))]) : Calls Try.prog 37 #[.pointer (some ⟨gw, 0, none⟩), .string s] w fun e w' => e = .returned (.int .i64 (feedS g fed t s).2) ∧ S w' ([Ob gw (.cells (rfC g (feedS g fed t s).1 t) 113 (0, 0))] ++ [Old w (fps [Ob gw (.cells #[.bool g, .string fed, .int .i64 (t : Int)] 113 (0, 0))])]) := by
  have H0 : S w [Ob gw (.cells #[.bool g, .string fed, .int .i64 ((t : Int))] 113 (0, 0)), Old w (fps [Ob gw (.cells #[.bool g, .string fed, .int .i64 (t : Int)] 113 (0, 0))])] := HB.beginI
  have hwe := whole_ends g fed
  refine enter 54 Try.func37 rfl rfl rfl ?_
  refine g_weak [(0, .pointer (some ⟨gw, 0, none⟩)), (1, .string s)] ⟨rfl, rfl, trivial⟩ ?_
  refine g_seq ?_
  refine g_region ?_
  refine l_of (s_val (v := .int .i64 0) (wt0 rfl) rfl rfl (x_assign rfl rfl) ?_)
  refine g_nil ?_
  refine g_then ?_
  refine g_seq ?_
  refine g_seq ?_
  refine g_region ?_
  refine l_of (s_val (v := .string s) (wt0 rfl) rfl rfl (x_move rfl rfl) ?_)
  refine l_of (s_val (v := .int .i64 ((s.size : Int))) (wt0 rfl) rfl rfl (x_lens rfl rfl Try.underlying9) ?_)
  refine l_of (s_val (v := .bool (decide ((65536 : Int) < (s.size : Int)))) (wt0 rfl) rfl rfl (x_bin rfl rfl rfl b_gtr) ?_)
  refine g_nil ?_
  refine g_then ?_
  by_cases hb1 : (65536 : Int) < (s.size : Int)
  · skip
    refine g_cond_t rfl (decide_eq_true hb1) ?_
    refine g_seq ?_
    refine g_region ?_
    refine l_of (s_val (v := .int .i64 3) (wt0 rfl) rfl rfl (x_assign rfl rfl) ?_)
    refine g_nil ?_
    refine g_then ?_
    refine g_ret ?_
    refine g_then_ret ?_
    refine fin_ret [.tmp 4] [.int .i64 3] rfl ⟨rfl, trivial⟩ ?_
    have hfs : feedS g fed t s = (fed, 3) := by unfold feedS; rw [if_pos hb1]
    rw [hfs]
    exact ⟨rfl, H0.mask [true, true]⟩
  · skip
    refine g_cond_f rfl (decide_eq_false hb1) ?_
    refine g_skip ?_
    refine g_then ?_
    refine g_seq ?_
    refine g_region ?_
    refine l_of (s_val (v := .pointer (some ⟨gw, 0, none⟩)) (wt0 rfl) rfl rfl (x_move rfl rfl) ?_)
    refine l_of (s_call (wt0 rfl) (x_call' rfl rfl cl38) (whole_p gw g fed hf _ (H0.cell (k := 0) rfl rfl) (H0.cell (k := 0) rfl rfl)) ?_)
    rintro _ wq6 ⟨p2, c3, p4, c5, rfl, H7⟩
    replace H7 : S wq6 [Rw 33 8 p2 (wholeR g fed).list.length c3 (msgsV (wholeR g fed).list), Rw 3 1 p4 (wholeR g fed).ends.length c5 (zsV (wholeR g fed).ends), Ob gw (.cells #[.bool g, .string fed, .int .i64 ((t : Int))] 113 (0, 0)), Old w (fps [Ob gw (.cells #[.bool g, .string fed, .int .i64 (t : Int)] 113 (0, 0))])] := H0.absorb (new := [Rw 33 8 p2 (wholeR g fed).list.length c3 (msgsV (wholeR g fed).list), Rw 3 1 p4 (wholeR g fed).ends.length c5 (zsV (wholeR g fed).ends)]) H7
    have hel1 : (wholeR g fed).ends.length ≤ 9223372036854775807 := by have h1 := (H7.rw (k := 1) rfl).2.1; have h2 := (H7.rw (k := 1) rfl).2.2.1; unfold maxLen at h2; omega
    refine b_ret rfl rfl ?_
    refine l_of (s_alloc H7 (wt0 rfl) rfl rfl rfl ze62 ?_)
    intro g8 wq9 H10
    refine l_of (s_store H10 0 (wt0 rfl) rfl rfl rfl rfl rfl sz62 rfl rfl (cs' := #[.bool ((wholeR g fed).hello.e), .bool ((wholeR g fed).hello.f), .bool ((wholeR g fed).hello.n), .string ((wholeR g fed).hello.name), .string ((wholeR g fed).hello.peer), .bool ((wholeR g fed).greets), .slice p2 (wholeR g fed).list.length c3, .slice p4 (wholeR g fed).ends.length c5, .int .i64 ((wholeR g fed).start), .int .i64 ((wholeR g fed).wrong)]) rfl ?_)
    intro wq11 H12
    refine g_nil ?_
    refine g_then ?_
    refine g_seq ?_
    refine g_seq ?_
    refine g_region ?_
    refine l_of (s_val (v := .pointer (some ⟨g8, 9, none⟩)) (wt0 rfl) rfl rfl (x_fieldAddr rfl rfl fo62_5 rfl) ?_)
    refine l_of (s_val (v := .int .i64 ((wholeR g fed).wrong)) (wt0 rfl) rfl rfl (x_load1 H12 0 rfl rfl Try.underlying3 rfl rfl rfl) ?_)
    refine l_of (s_val (v := .bool (decide ((0 : Int) ≤ (wholeR g fed).wrong))) (wt0 rfl) rfl rfl (x_bin rfl rfl rfl b_geq) ?_)
    refine g_nil ?_
    refine g_then ?_
    by_cases hb13 : (0 : Int) ≤ (wholeR g fed).wrong
    · skip
      refine g_cond_t rfl (decide_eq_true hb13) ?_
      refine g_seq ?_
      refine g_region ?_
      refine l_of (s_val (v := .int .i64 12) (wt0 rfl) rfl rfl (x_assign rfl rfl) ?_)
      refine g_nil ?_
      refine g_then ?_
      refine g_ret ?_
      refine g_then_ret ?_
      refine fin_ret [.tmp 4] [.int .i64 12] rfl ⟨rfl, trivial⟩ ?_
      have hfs : feedS g fed t s = (fed, 12) := by unfold feedS; rw [if_neg hb1, if_pos hb13]
      rw [hfs]
      exact ⟨rfl, H12.mask [false, false, false, true, true]⟩
    · skip
      refine g_cond_f rfl (decide_eq_false hb13) ?_
      refine g_skip ?_
      refine g_then ?_
      refine g_seq ?_
      refine g_region ?_
      refine l_of (s_val (v := .pointer (some ⟨g8, 8, none⟩)) (wt0 rfl) rfl rfl (x_fieldAddr rfl rfl fo62_4 rfl) ?_)
      refine l_of (s_val (v := .int .i64 ((wholeR g fed).start)) (wt0 rfl) rfl rfl (x_load1 H12 0 rfl rfl Try.underlying3 rfl rfl rfl) ?_)
      refine l_of (s_val (v := .int .i64 ((wholeR g fed).start)) (wt0 rfl) rfl rfl (x_assign rfl rfl) ?_)
      refine g_nil ?_
      refine g_then ?_
      refine g_seq ?_
      refine g_seq ?_
      refine g_region ?_
      refine l_of (s_val (v := .pointer (some ⟨gw, 0, none⟩)) (wt0 rfl) rfl rfl (x_move rfl rfl) ?_)
      refine l_of (s_val (v := .pointer (some ⟨gw, 0, none⟩)) (wt0 rfl) rfl rfl (x_nilCheck rfl rfl) ?_)
      refine l_of (s_val (v := .pointer (some ⟨gw, 2, none⟩)) (wt0 rfl) rfl rfl (x_fieldAddr rfl rfl fo113_2 rfl) ?_)
      refine l_of (s_val (v := .int .i64 ((t : Int))) (wt0 rfl) rfl rfl (x_load1 H12 3 rfl rfl Try.underlying3 rfl rfl rfl) ?_)
      refine l_of (s_val (v := .bool (decide ((0 : Int) < (t : Int)))) (wt0 rfl) rfl rfl (x_bin rfl rfl rfl b_gtr) ?_)
      refine g_nil ?_
      refine g_then ?_
      refine g_weak [(0, .pointer (some ⟨gw, 0, none⟩)), (1, .string s), (5, .pointer (some ⟨g8, 0, none⟩)), (6, .int .i64 ((wholeR g fed).start)), (21, .bool (decide ((0 : Int) < (t : Int))))] ⟨rfl, rfl, rfl, rfl, rfl, trivial⟩ ?_
      by_cases hb14 : (0 : Int) < (t : Int)
      · skip
        have hfr : fromS g fed t = (wholeR g fed).ends.getD ((t : Int) - 1).toNat 0 := by unfold fromS; rw [if_pos hb14]
        have htl : ((t : Int) - 1).toNat < (wholeR g fed).ends.length := by omega
        have hz : (wholeR g fed).ends[((t : Int) - 1).toNat]? = some ((wholeR g fed).ends.getD ((t : Int) - 1).toNat 0) := by rw [List.getD_eq_getElem?_getD, List.getElem?_eq_getElem htl]; rfl
        have hzb := hwe.1 _ (List.mem_of_getElem? hz)
        have hse := H12.rwSome (k := 2) rfl (by omega)
        refine g_cond_t rfl (decide_eq_true hb14) ?_
        refine g_quiet (by kernel_rfl) (by kernel_rfl) H12 ?_
        refine q_val (v := .pointer (some ⟨g8, 7, none⟩)) (wt0 rfl) rfl rfl (fun wx H => x_fieldAddr rfl rfl fo62_3 rfl) ?_
        refine q_val (v := .slice p4 (wholeR g fed).ends.length c5) (wt0 rfl) rfl rfl (fun wx H => x_load1 H 0 rfl rfl Try.underlying60 rfl rfl rfl) ?_
        refine q_val (v := .pointer (some ⟨gw, 0, none⟩)) (wt0 rfl) rfl rfl (fun wx H => x_move rfl rfl) ?_
        refine q_val (v := .pointer (some ⟨gw, 0, none⟩)) (wt0 rfl) rfl rfl (fun wx H => x_nilCheck rfl rfl) ?_
        refine q_val (v := .pointer (some ⟨gw, 2, none⟩)) (wt0 rfl) rfl rfl (fun wx H => x_fieldAddr rfl rfl fo113_2 rfl) ?_
        refine q_val (v := .int .i64 ((t : Int))) (wt0 rfl) rfl rfl (fun wx H => x_load1 H 3 rfl rfl Try.underlying3 rfl rfl rfl) ?_
        refine q_val (v := .int .i64 ((t : Int) - 1)) (wt0 rfl) rfl rfl (fun wx H => x_bin rfl rfl rfl (b_sub (w64 (by omega)))) ?_
        refine q_val (v := .pointer ((p4).map fun q => q.add ((((t : Int) - 1).toNat) * 1))) (wt0 rfl) rfl rfl (fun wx H => x_idxP (((t : Int) - 1).toNat) (hse) rfl rfl rfl Try.underlying60 sz3 (by omega)) ?_
        refine q_val (v := .int .i64 (((wholeR g fed).ends.getD ((((t : Int) - 1).toNat)) 0))) (wt0 rfl) rfl rfl (fun wx H => x_loadR1 (((t : Int) - 1).toNat) (H.rwReads (k := 2) rfl) (by omega) rfl rfl Try.underlying3 rfl (zsV_at hz)) ?_
        refine q_val (v := .int .i64 (((wholeR g fed).ends.getD ((((t : Int) - 1).toNat)) 0))) (wt0 rfl) rfl rfl (fun wx H => x_assign rfl rfl) ?_
        refine q_nil (fun wq15 H16 => ?_)
        refine g_then ?_
        refine g_seq ?_
        refine g_seq ?_
        refine g_region ?_
        refine l_of (s_val (v := .pointer (some ⟨gw, 0, none⟩)) (wt0 rfl) rfl rfl (x_move rfl rfl) ?_)
        refine l_of (s_val (v := .pointer (some ⟨gw, 0, none⟩)) (wt0 rfl) rfl rfl (x_nilCheck rfl rfl) ?_)
        refine l_of (s_val (v := .pointer (some ⟨gw, 1, none⟩)) (wt0 rfl) rfl rfl (x_fieldAddr rfl rfl fo113_1 rfl) ?_)
        refine l_of (s_val (v := .string fed) (wt0 rfl) rfl rfl (x_load1 H16 3 rfl rfl Try.underlying9 rfl rfl rfl) ?_)
        refine l_of (s_val (v := .int .i64 ((fed.size : Int))) (wt0 rfl) rfl rfl (x_lens rfl rfl Try.underlying9) ?_)
        refine l_of (s_val (v := .int .i64 (((wholeR g fed).ends.getD ((((t : Int) - 1).toNat)) 0))) (wt0 rfl) rfl rfl (x_move rfl rfl) ?_)
        refine l_of (s_val (v := .int .i64 ((fed.size : Int) - ((wholeR g fed).ends.getD ((((t : Int) - 1).toNat)) 0))) (wt0 rfl) rfl rfl (x_bin rfl rfl rfl (b_sub (w64 (by omega)))) ?_)
        refine l_of (s_val (v := .string s) (wt0 rfl) rfl rfl (x_move rfl rfl) ?_)
        refine l_of (s_val (v := .int .i64 ((s.size : Int))) (wt0 rfl) rfl rfl (x_lens rfl rfl Try.underlying9) ?_)
        refine l_of (s_val (v := .int .i64 (((fed.size : Int) - ((wholeR g fed).ends.getD ((((t : Int) - 1).toNat)) 0)) + (s.size : Int))) (wt0 rfl) rfl rfl (x_bin rfl rfl rfl (b_add (w64 (by omega)))) ?_)
        refine l_of (s_val (v := .bool (decide ((65536 : Int) < ((fed.size : Int) - ((wholeR g fed).ends.getD ((((t : Int) - 1).toNat)) 0)) + (s.size : Int)))) (wt0 rfl) rfl rfl (x_bin rfl rfl rfl b_gtr) ?_)
        refine g_nil ?_
        refine g_then ?_
        refine g_weak [(0, .pointer (some ⟨gw, 0, none⟩)), (1, .string s), (41, .bool (decide ((65536 : Int) < ((fed.size : Int) - ((wholeR g fed).ends.getD ((((t : Int) - 1).toNat)) 0)) + (s.size : Int))))] ⟨rfl, rfl, rfl, trivial⟩ ?_
        by_cases hb17 : (65536 : Int) < ((fed.size : Int) - ((wholeR g fed).ends.getD ((((t : Int) - 1).toNat)) 0)) + (s.size : Int)
        · skip
          refine g_cond_t rfl (decide_eq_true hb17) ?_
          refine g_seq ?_
          refine g_region ?_
          refine l_of (s_val (v := .int .i64 4) (wt0 rfl) rfl rfl (x_assign rfl rfl) ?_)
          refine g_nil ?_
          refine g_then ?_
          refine g_ret ?_
          refine g_then_ret ?_
          refine fin_ret [.tmp 4] [.int .i64 4] rfl ⟨rfl, trivial⟩ ?_
          have hfs : feedS g fed t s = (fed, 4) := by unfold feedS; rw [hfr]; rw [if_neg hb1, if_neg hb13, if_pos hb17]
          rw [hfs]
          exact ⟨rfl, H16.mask [false, false, false, true, true]⟩
        · skip
          refine g_cond_f rfl (decide_eq_false hb17) ?_
          refine g_skip ?_
          refine g_then ?_
          refine g_seq ?_
          refine g_region ?_
          refine l_of (s_val (v := .pointer (some ⟨gw, 0, none⟩)) (wt0 rfl) rfl rfl (x_move rfl rfl) ?_)
          refine l_of (s_val (v := .pointer (some ⟨gw, 0, none⟩)) (wt0 rfl) rfl rfl (x_nilCheck rfl rfl) ?_)
          refine l_of (s_val (v := .pointer (some ⟨gw, 1, none⟩)) (wt0 rfl) rfl rfl (x_fieldAddr rfl rfl fo113_1 rfl) ?_)
          refine l_of (s_val (v := .string fed) (wt0 rfl) rfl rfl (x_load1 H16 3 rfl rfl Try.underlying9 rfl rfl rfl) ?_)
          refine l_of (s_val (v := .string s) (wt0 rfl) rfl rfl (x_move rfl rfl) ?_)
          have hsz18 : (fed ++ s).size = fed.size + s.size := ByteArray.size_append
          refine l_of (s_val (v := .string (fed ++ s)) (wt0 rfl) rfl rfl (x_bin rfl rfl rfl (b_cat (by omega))) ?_)
          refine l_of (s_val (v := .pointer (some ⟨gw, 0, none⟩)) (wt0 rfl) rfl rfl (x_nilCheck rfl rfl) ?_)
          refine l_of (s_val (v := .pointer (some ⟨gw, 1, none⟩)) (wt0 rfl) rfl rfl (x_fieldAddr rfl rfl fo113_1 rfl) ?_)
          refine l_of (s_store H16 3 (wt0 rfl) rfl rfl rfl rfl rfl sz9 rfl rfl (cs' := #[.bool g, .string (fed ++ s), .int .i64 ((t : Int))]) rfl ?_)
          intro wq19 H20
          refine g_nil ?_
          refine g_then ?_
          refine g_seq ?_
          refine g_seq ?_
          refine g_region ?_
          refine l_of (s_val (v := .pointer (some ⟨gw, 0, none⟩)) (wt0 rfl) rfl rfl (x_move rfl rfl) ?_)
          refine l_of (s_call (wt0 rfl) (x_call' rfl rfl cl38) (whole_p gw g (fed ++ s) (by omega) _ (H20.cell (k := 3) rfl rfl) (H20.cell (k := 3) rfl rfl)) ?_)
          rintro _ wq25 ⟨p21, c22, p23, c24, rfl, H26⟩
          replace H26 : S wq25 [Rw 33 8 p21 (wholeR g (fed ++ s)).list.length c22 (msgsV (wholeR g (fed ++ s)).list), Rw 3 1 p23 (wholeR g (fed ++ s)).ends.length c24 (zsV (wholeR g (fed ++ s)).ends), Ob g8 (.cells #[.bool ((wholeR g fed).hello.e), .bool ((wholeR g fed).hello.f), .bool ((wholeR g fed).hello.n), .string ((wholeR g fed).hello.name), .string ((wholeR g fed).hello.peer), .bool ((wholeR g fed).greets), .slice p2 (wholeR g fed).list.length c3, .slice p4 (wholeR g fed).ends.length c5, .int .i64 ((wholeR g fed).start), .int .i64 ((wholeR g fed).wrong)] 62 (0, 0)), Rw 33 8 p2 (wholeR g fed).list.length c3 (msgsV (wholeR g fed).list), Rw 3 1 p4 (wholeR g fed).ends.length c5 (zsV (wholeR g fed).ends), Ob gw (.cells #[.bool g, .string (fed ++ s), .int .i64 ((t : Int))] 113 (0, 0)), Old w (fps [Ob gw (.cells #[.bool g, .string fed, .int .i64 (t : Int)] 113 (0, 0))])] := H20.absorb (new := [Rw 33 8 p21 (wholeR g (fed ++ s)).list.length c22 (msgsV (wholeR g (fed ++ s)).list), Rw 3 1 p23 (wholeR g (fed ++ s)).ends.length c24 (zsV (wholeR g (fed ++ s)).ends)]) H26
          have hel2 : (wholeR g (fed ++ s)).ends.length ≤ 9223372036854775807 := by have h1 := (H26.rw (k := 1) rfl).2.1; have h2 := (H26.rw (k := 1) rfl).2.2.1; unfold maxLen at h2; omega
          refine b_ret rfl rfl ?_
          refine l_of (s_val (v := .int .i64 ((wholeR g (fed ++ s)).wrong)) (wt0 rfl) rfl rfl (x_field (n := 0) (m := 0) rfl rfl Try.underlying62 rfl (run_part1 Try.underlying3 rfl rfl)) ?_)
          refine l_of (s_val (v := .bool (decide ((0 : Int) ≤ (wholeR g (fed ++ s)).wrong))) (wt0 rfl) rfl rfl (x_bin rfl rfl rfl b_geq) ?_)
          refine g_nil ?_
          refine g_then ?_
          refine g_weak [(53, .bool (decide ((0 : Int) ≤ (wholeR g (fed ++ s)).wrong)))] ⟨rfl, trivial⟩ ?_
          by_cases hb27 : (0 : Int) ≤ (wholeR g (fed ++ s)).wrong
          · skip
            refine g_cond_t rfl (decide_eq_true hb27) ?_
            refine g_seq ?_
            refine g_region ?_
            refine l_of (s_val (v := .int .i64 12) (wt0 rfl) rfl rfl (x_assign rfl rfl) ?_)
            refine g_nil ?_
            refine g_then ?_
            refine g_ret ?_
            refine g_then_ret ?_
            refine fin_ret [.tmp 4] [.int .i64 12] rfl ⟨rfl, trivial⟩ ?_
            have hfs : feedS g fed t s = (fed ++ s, 12) := by unfold feedS; rw [hfr]; rw [if_neg hb1, if_neg hb13, if_neg hb17, if_pos hb27]
            rw [hfs]
            exact ⟨rfl, H26.mask [false, false, false, false, false, true, true]⟩
          · skip
            refine g_cond_f rfl (decide_eq_false hb27) ?_
            refine g_skip ?_
            refine g_then ?_
            refine g_seq ?_
            refine g_region ?_
            refine l_of (s_val (v := .int .i64 0) (wt0 rfl) rfl rfl (x_assign rfl rfl) ?_)
            refine g_nil ?_
            refine g_then ?_
            refine g_ret ?_
            refine fin_ret [.tmp 4] [.int .i64 0] rfl ⟨rfl, trivial⟩ ?_
            have hfs : feedS g fed t s = (fed ++ s, 0) := by unfold feedS; rw [hfr]; rw [if_neg hb1, if_neg hb13, if_neg hb17, if_neg hb27]
            rw [hfs]
            exact ⟨rfl, H26.mask [false, false, false, false, false, true, true]⟩
      · skip
        have hfr : fromS g fed t = (wholeR g fed).start := by unfold fromS; rw [if_neg hb14]
        refine g_cond_f rfl (decide_eq_false hb14) ?_
        refine g_skip ?_
        refine g_then ?_
        refine g_seq ?_
        refine g_seq ?_
        refine g_region ?_
        refine l_of (s_val (v := .pointer (some ⟨gw, 0, none⟩)) (wt0 rfl) rfl rfl (x_move rfl rfl) ?_)
        refine l_of (s_val (v := .pointer (some ⟨gw, 0, none⟩)) (wt0 rfl) rfl rfl (x_nilCheck rfl rfl) ?_)
        refine l_of (s_val (v := .pointer (some ⟨gw, 1, none⟩)) (wt0 rfl) rfl rfl (x_fieldAddr rfl rfl fo113_1 rfl) ?_)
        refine l_of (s_val (v := .string fed) (wt0 rfl) rfl rfl (x_load1 H12 3 rfl rfl Try.underlying9 rfl rfl rfl) ?_)
        refine l_of (s_val (v := .int .i64 ((fed.size : Int))) (wt0 rfl) rfl rfl (x_lens rfl rfl Try.underlying9) ?_)
        refine l_of (s_val (v := .int .i64 ((wholeR g fed).start)) (wt0 rfl) rfl rfl (x_move rfl rfl) ?_)
        refine l_of (s_val (v := .int .i64 ((fed.size : Int) - ((wholeR g fed).start))) (wt0 rfl) rfl rfl (x_bin rfl rfl rfl (b_sub (w64 (by omega)))) ?_)
        refine l_of (s_val (v := .string s) (wt0 rfl) rfl rfl (x_move rfl rfl) ?_)
        refine l_of (s_val (v := .int .i64 ((s.size : Int))) (wt0 rfl) rfl rfl (x_lens rfl rfl Try.underlying9) ?_)
        refine l_of (s_val (v := .int .i64 (((fed.size : Int) - ((wholeR g fed).start)) + (s.size : Int))) (wt0 rfl) rfl rfl (x_bin rfl rfl rfl (b_add (w64 (by omega)))) ?_)
        refine l_of (s_val (v := .bool (decide ((65536 : Int) < ((fed.size : Int) - ((wholeR g fed).start)) + (s.size : Int)))) (wt0 rfl) rfl rfl (x_bin rfl rfl rfl b_gtr) ?_)
        refine g_nil ?_
        refine g_then ?_
        refine g_weak [(0, .pointer (some ⟨gw, 0, none⟩)), (1, .string s), (41, .bool (decide ((65536 : Int) < ((fed.size : Int) - ((wholeR g fed).start)) + (s.size : Int))))] ⟨rfl, rfl, rfl, trivial⟩ ?_
        by_cases hb28 : (65536 : Int) < ((fed.size : Int) - ((wholeR g fed).start)) + (s.size : Int)
        · skip
          refine g_cond_t rfl (decide_eq_true hb28) ?_
          refine g_seq ?_
          refine g_region ?_
          refine l_of (s_val (v := .int .i64 4) (wt0 rfl) rfl rfl (x_assign rfl rfl) ?_)
          refine g_nil ?_
          refine g_then ?_
          refine g_ret ?_
          refine g_then_ret ?_
          refine fin_ret [.tmp 4] [.int .i64 4] rfl ⟨rfl, trivial⟩ ?_
          have hfs : feedS g fed t s = (fed, 4) := by unfold feedS; rw [hfr]; rw [if_neg hb1, if_neg hb13, if_pos hb28]
          rw [hfs]
          exact ⟨rfl, H12.mask [false, false, false, true, true]⟩
        · skip
          refine g_cond_f rfl (decide_eq_false hb28) ?_
          refine g_skip ?_
          refine g_then ?_
          refine g_seq ?_
          refine g_region ?_
          refine l_of (s_val (v := .pointer (some ⟨gw, 0, none⟩)) (wt0 rfl) rfl rfl (x_move rfl rfl) ?_)
          refine l_of (s_val (v := .pointer (some ⟨gw, 0, none⟩)) (wt0 rfl) rfl rfl (x_nilCheck rfl rfl) ?_)
          refine l_of (s_val (v := .pointer (some ⟨gw, 1, none⟩)) (wt0 rfl) rfl rfl (x_fieldAddr rfl rfl fo113_1 rfl) ?_)
          refine l_of (s_val (v := .string fed) (wt0 rfl) rfl rfl (x_load1 H12 3 rfl rfl Try.underlying9 rfl rfl rfl) ?_)
          refine l_of (s_val (v := .string s) (wt0 rfl) rfl rfl (x_move rfl rfl) ?_)
          have hsz29 : (fed ++ s).size = fed.size + s.size := ByteArray.size_append
          refine l_of (s_val (v := .string (fed ++ s)) (wt0 rfl) rfl rfl (x_bin rfl rfl rfl (b_cat (by omega))) ?_)
          refine l_of (s_val (v := .pointer (some ⟨gw, 0, none⟩)) (wt0 rfl) rfl rfl (x_nilCheck rfl rfl) ?_)
          refine l_of (s_val (v := .pointer (some ⟨gw, 1, none⟩)) (wt0 rfl) rfl rfl (x_fieldAddr rfl rfl fo113_1 rfl) ?_)
          refine l_of (s_store H12 3 (wt0 rfl) rfl rfl rfl rfl rfl sz9 rfl rfl (cs' := #[.bool g, .string (fed ++ s), .int .i64 ((t : Int))]) rfl ?_)
          intro wq30 H31
          refine g_nil ?_
          refine g_then ?_
          refine g_seq ?_
          refine g_seq ?_
          refine g_region ?_
          refine l_of (s_val (v := .pointer (some ⟨gw, 0, none⟩)) (wt0 rfl) rfl rfl (x_move rfl rfl) ?_)
          refine l_of (s_call (wt0 rfl) (x_call' rfl rfl cl38) (whole_p gw g (fed ++ s) (by omega) _ (H31.cell (k := 3) rfl rfl) (H31.cell (k := 3) rfl rfl)) ?_)
          rintro _ wq36 ⟨p32, c33, p34, c35, rfl, H37⟩
          replace H37 : S wq36 [Rw 33 8 p32 (wholeR g (fed ++ s)).list.length c33 (msgsV (wholeR g (fed ++ s)).list), Rw 3 1 p34 (wholeR g (fed ++ s)).ends.length c35 (zsV (wholeR g (fed ++ s)).ends), Ob g8 (.cells #[.bool ((wholeR g fed).hello.e), .bool ((wholeR g fed).hello.f), .bool ((wholeR g fed).hello.n), .string ((wholeR g fed).hello.name), .string ((wholeR g fed).hello.peer), .bool ((wholeR g fed).greets), .slice p2 (wholeR g fed).list.length c3, .slice p4 (wholeR g fed).ends.length c5, .int .i64 ((wholeR g fed).start), .int .i64 ((wholeR g fed).wrong)] 62 (0, 0)), Rw 33 8 p2 (wholeR g fed).list.length c3 (msgsV (wholeR g fed).list), Rw 3 1 p4 (wholeR g fed).ends.length c5 (zsV (wholeR g fed).ends), Ob gw (.cells #[.bool g, .string (fed ++ s), .int .i64 ((t : Int))] 113 (0, 0)), Old w (fps [Ob gw (.cells #[.bool g, .string fed, .int .i64 (t : Int)] 113 (0, 0))])] := H31.absorb (new := [Rw 33 8 p32 (wholeR g (fed ++ s)).list.length c33 (msgsV (wholeR g (fed ++ s)).list), Rw 3 1 p34 (wholeR g (fed ++ s)).ends.length c35 (zsV (wholeR g (fed ++ s)).ends)]) H37
          have hel2 : (wholeR g (fed ++ s)).ends.length ≤ 9223372036854775807 := by have h1 := (H37.rw (k := 1) rfl).2.1; have h2 := (H37.rw (k := 1) rfl).2.2.1; unfold maxLen at h2; omega
          refine b_ret rfl rfl ?_
          refine l_of (s_val (v := .int .i64 ((wholeR g (fed ++ s)).wrong)) (wt0 rfl) rfl rfl (x_field (n := 0) (m := 0) rfl rfl Try.underlying62 rfl (run_part1 Try.underlying3 rfl rfl)) ?_)
          refine l_of (s_val (v := .bool (decide ((0 : Int) ≤ (wholeR g (fed ++ s)).wrong))) (wt0 rfl) rfl rfl (x_bin rfl rfl rfl b_geq) ?_)
          refine g_nil ?_
          refine g_then ?_
          refine g_weak [(53, .bool (decide ((0 : Int) ≤ (wholeR g (fed ++ s)).wrong)))] ⟨rfl, trivial⟩ ?_
          by_cases hb38 : (0 : Int) ≤ (wholeR g (fed ++ s)).wrong
          · skip
            refine g_cond_t rfl (decide_eq_true hb38) ?_
            refine g_seq ?_
            refine g_region ?_
            refine l_of (s_val (v := .int .i64 12) (wt0 rfl) rfl rfl (x_assign rfl rfl) ?_)
            refine g_nil ?_
            refine g_then ?_
            refine g_ret ?_
            refine g_then_ret ?_
            refine fin_ret [.tmp 4] [.int .i64 12] rfl ⟨rfl, trivial⟩ ?_
            have hfs : feedS g fed t s = (fed ++ s, 12) := by unfold feedS; rw [hfr]; rw [if_neg hb1, if_neg hb13, if_neg hb28, if_pos hb38]
            rw [hfs]
            exact ⟨rfl, H37.mask [false, false, false, false, false, true, true]⟩
          · skip
            refine g_cond_f rfl (decide_eq_false hb38) ?_
            refine g_skip ?_
            refine g_then ?_
            refine g_seq ?_
            refine g_region ?_
            refine l_of (s_val (v := .int .i64 0) (wt0 rfl) rfl rfl (x_assign rfl rfl) ?_)
            refine g_nil ?_
            refine g_then ?_
            refine g_ret ?_
            refine fin_ret [.tmp 4] [.int .i64 0] rfl ⟨rfl, trivial⟩ ?_
            have hfs : feedS g fed t s = (fed ++ s, 0) := by unfold feedS; rw [hfr]; rw [if_neg hb1, if_neg hb13, if_neg hb28, if_neg hb38]
            rw [hfs]
            exact ⟨rfl, H37.mask [false, false, false, false, false, true, true]⟩
end Go.Proofs.Ytcjmdkklbbollaa
namespace Go.Proofs.Ytcjmdkklbbollaa
open Go.RowKit

set_option maxRecDepth 20000 in
set_option maxHeartbeats 4000000 in
set_option maxRecDepth 20000 in
set_option maxHeartbeats 4000000 in
theorem hello_w (gr : Nat) (r : Rdr) {B : Nat} (hr : r.Ok B) (p1 p2 : Option Addr) (c1 c2 : Nat) (w : World) (HB : S w (rdL gr r p1 c1 p2 c2)) :
    Calls Try.prog 39 #[.pointer (some ⟨gr, 0, none⟩)] w fun e w' => e = .returned (.tuple #[.agg (if r.told = true then r.hello else Hs.zero).cells, .bool r.told]) ∧ ∃ p1' c1' p2' c2', S w' (rdL gr ((r, ())).1 p1' c1' p2' c2' ++ [Old w (fps (rdL gr r p1 c1 p2 c2))]) := by
  have H0 : S w [Ob gr (.cells #[.slice p1 r.ms.length c1, .slice p2 r.ms.length c2, .int .i64 (r.bytes), .bool r.greet, .bool r.hello.e, .bool r.hello.f, .bool r.hello.n, .string (r.hello.name), .string (r.hello.peer), .bool r.told, .string (r.left), .int .i64 (r.done), .int .i64 (r.wrong)] 108 (0, 0)), Rw 33 8 p1 r.ms.length c1 (msgsV r.ms), Rw 3 1 p2 r.ms.length c2 (zsV r.zs), Old w (fps (rdL gr r p1 c1 p2 c2))] := HB.beginI
  refine enter 18 Try.func39 rfl rfl rfl ?_
  refine g_weak [(0, .pointer (some ⟨gr, 0, none⟩))] ⟨rfl, trivial⟩ ?_
  refine g_seq ?_
  refine g_region ?_
  refine l_of (s_alloc H0 (wt0 rfl) rfl rfl rfl ze23 ?_)
  intro g1 wq2 H3
  refine l_of (s_val (v := .bool false) (wt0 rfl) rfl rfl (x_assign rfl rfl) ?_)
  refine g_nil ?_
  refine g_then ?_
  refine g_seq ?_
  refine g_seq ?_
  refine g_region ?_
  refine l_of (s_val (v := .pointer (some ⟨gr, 0, none⟩)) (wt0 rfl) rfl rfl (x_move rfl rfl) ?_)
  refine l_of (s_val (v := .bool false) (wt0 rfl) rfl rfl (x_bin rfl rfl rfl (b_eqN (r := false) Try.underlying48 rfl)) ?_)
  refine l_of (s_val (v := .bool false) (wt0 rfl) rfl rfl (x_move rfl rfl) ?_)
  refine l_of (s_val (v := .pointer (some ⟨gr, 0, none⟩)) (wt1 rfl rfl rfl rfl rfl) rfl rfl (x_move rfl rfl) ?_)
  refine l_of (s_val (v := .pointer (some ⟨gr, 0, none⟩)) (wt1 rfl rfl rfl rfl rfl) rfl rfl (x_nilCheck rfl rfl) ?_)
  refine l_of (s_val (v := .pointer (some ⟨gr, 9, none⟩)) (wt1 rfl rfl rfl rfl rfl) rfl rfl (x_fieldAddr rfl rfl fo108_3 rfl) ?_)
  refine l_of (s_val (v := .bool r.told) (wt1 rfl rfl rfl rfl rfl) rfl rfl (x_load1 H3 1 rfl rfl Try.underlying4 rfl rfl rfl) ?_)
  refine l_of (s_val (v := .bool !(r.told)) (wt1 rfl rfl rfl rfl rfl) rfl rfl (x_not (b := r.told) rfl rfl) ?_)
  refine l_of (s_val (v := .bool !(r.told)) (wt0 rfl) rfl rfl (x_pick_f rfl rfl rfl rfl) ?_)
  refine g_nil ?_
  refine g_then ?_
  rcases Bool.eq_false_or_eq_true (r.told) with hb4 | hb4
  · skip
    refine g_cond_f rfl (neg_of hb4) ?_
    refine g_skip ?_
    refine g_then ?_
    refine g_seq ?_
    refine g_region ?_
    refine l_of (s_val (v := .pointer (some ⟨gr, 0, none⟩)) (wt0 rfl) rfl rfl (x_move rfl rfl) ?_)
    refine l_of (s_val (v := .pointer (some ⟨gr, 0, none⟩)) (wt0 rfl) rfl rfl (x_nilCheck rfl rfl) ?_)
    refine l_of (s_val (v := .pointer (some ⟨gr, 4, none⟩)) (wt0 rfl) rfl rfl (x_fieldAddr rfl rfl fo108_2 rfl) ?_)
    refine l_of (s_val (v := .agg #[.bool r.hello.e, .bool r.hello.f, .bool r.hello.n, .string (r.hello.name), .string (r.hello.peer)]) (wt0 rfl) rfl rfl (x_loadA H3 1 rfl rfl Try.underlying23 rfl sz23 rfl rfl rfl) ?_)
    refine l_of (s_store H3 0 (wt0 rfl) rfl rfl rfl rfl rfl sz23 rfl rfl (cs' := #[.bool r.hello.e, .bool r.hello.f, .bool r.hello.n, .string (r.hello.name), .string (r.hello.peer)]) rfl ?_)
    intro wq5 H6
    refine l_of (s_val (v := .bool true) (wt0 rfl) rfl rfl (x_assign rfl rfl) ?_)
    refine g_nil ?_
    refine g_then ?_
    refine g_weak [(2, .pointer (some ⟨g1, 0, none⟩)), (3, .bool true)] ⟨rfl, rfl, trivial⟩ ?_
    refine g_ret ?_
    refine fin_ret [.cell 2 23, .tmp 3] [.agg #[.bool r.hello.e, .bool r.hello.f, .bool r.hello.n, .string (r.hello.name), .string (r.hello.peer)], .bool true] rfl ⟨⟨_, rfl, run_loadA (H6.ob (k := 0) rfl) Try.underlying23 rfl sz23 rfl rfl⟩, rfl, trivial⟩ ?_
    exact ⟨by simp only [hb4, if_true, Bool.false_eq_true, if_false]; rfl, p1, c1, p2, c2, H6.mask [false, true, true, true, true]⟩
  · skip
    refine g_cond_t rfl (neg_of hb4) ?_
    refine g_seq ?_
    refine g_region ?_
    refine l_of (s_val (v := .agg #[.bool false, .bool false, .bool false, .string (⟨#[]⟩), .string (⟨#[]⟩)]) (wt0 rfl) rfl rfl (x_build (vs := []) rfl rfl (cells := #[.bool false, .bool false, .bool false, .string (⟨#[]⟩), .string (⟨#[]⟩)]) (by kernel_rfl)) ?_)
    refine l_of (s_store H3 0 (wt0 rfl) rfl rfl rfl rfl rfl sz23 rfl rfl (cs' := #[.bool false, .bool false, .bool false, .string (⟨#[]⟩), .string (⟨#[]⟩)]) rfl ?_)
    intro wq7 H8
    refine l_of (s_val (v := .bool false) (wt0 rfl) rfl rfl (x_assign rfl rfl) ?_)
    refine g_nil ?_
    refine g_then ?_
    refine g_ret ?_
    refine g_then_ret ?_
    refine fin_ret [.cell 2 23, .tmp 3] [.agg #[.bool false, .bool false, .bool false, .string (⟨#[]⟩), .string (⟨#[]⟩)], .bool false] rfl ⟨⟨_, rfl, run_loadA (H8.ob (k := 0) rfl) Try.underlying23 rfl sz23 rfl rfl⟩, rfl, trivial⟩ ?_
    exact ⟨by simp only [hb4, if_true, Bool.false_eq_true, if_false]; rfl, p1, c1, p2, c2, H8.mask [false, true, true, true, true]⟩
end Go.Proofs.Ytcjmdkklbbollaa
