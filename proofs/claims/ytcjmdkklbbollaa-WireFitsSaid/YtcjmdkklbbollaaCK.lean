import Derived.Test.YtcjmdkklbbollaaCJ
set_option linter.unusedSimpArgs false
set_option linter.unusedVariables false
namespace Go.Proofs.Ytcjmdkklbbollaa
open Go.RowKit

theorem cl10 : callable Try.prog 10 = true := by kernel_rfl
theorem cl17 : callable Try.prog 17 = true := by kernel_rfl
theorem cl24 : callable Try.prog 24 = true := by kernel_rfl
theorem cl25 : callable Try.prog 25 = true := by kernel_rfl
theorem cl26 : callable Try.prog 26 = true := by kernel_rfl
theorem cl27 : callable Try.prog 27 = true := by kernel_rfl
theorem cl28 : callable Try.prog 28 = true := by kernel_rfl
theorem cl29 : callable Try.prog 29 = true := by kernel_rfl
theorem S.rwSome' {w : World} {L : List Item} {k e size n c : Nat} {p : Option Addr} {xs : List Value} (h : S w L) (hk : L[k]? = some (Rw e size p n c xs)) (hn : 0 < n) : ∃ a, p = some a := by
  obtain ⟨a, h1, _⟩ := (h.rwReads hk).2.2 hn
  exact ⟨a, h1⟩
set_option maxRecDepth 20000 in
set_option maxHeartbeats 4000000 in
theorem fits_law (m : M) (n count piece last : Int)  (w : World) : Calls Try.prog 6 #[.agg m.cells, .int .i64 n, .int .i64 count, .int .i64 piece, .int .i64 last] w fun e w' => e = .returned (.bool true) ∧ Sub w w' := by
  have H0 := S.old w
  refine enter 95 Try.func6 rfl rfl rfl ?_
  refine g_weak [(0, .agg m.cells), (1, .int .i64 n), (2, .int .i64 count), (3, .int .i64 piece), (4, .int .i64 last)] ⟨rfl, rfl, rfl, rfl, rfl, trivial⟩ ?_
  refine g_seq ?_
  refine g_region ?_
  refine l_of (s_box H0 (wt0 rfl) rfl rfl rfl rfl ?_)
  intro g1 wq2 H3
  refine l_of (s_val (v := .bool false) (wt0 rfl) rfl rfl (x_assign rfl rfl) ?_)
  refine g_nil ?_
  refine g_then ?_
  refine g_seq ?_
  refine g_seq ?_
  refine g_region ?_
  refine l_of (s_val (v := .agg m.cells) (wt0 rfl) rfl rfl (x_loadA H3 0 rfl rfl Try.underlying33 rfl sz33 rfl rfl rfl) ?_)
  refine l_of (s_call (wt0 rfl) (x_call' rfl rfl cl17) (light_p _ _) ?_)
  rintro _ wq4 ⟨rfl, H5⟩
  replace H5 : S wq4 [Ob g1 (.cells m.cells 33 (0, 0)), Old w no] := H3.absorb (new := []) H5
  refine b_ret rfl rfl ?_
  refine l_of (s_val (v := .bool (!(lightB m))) (wt0 rfl) rfl rfl (x_not (b := lightB m) rfl rfl) ?_)
  refine g_nil ?_
  refine g_then ?_
  rcases Bool.eq_false_or_eq_true (lightB m) with hb6 | hb6
  · skip
    refine g_cond_f rfl (neg_of hb6) ?_
    refine g_skip ?_
    refine g_then ?_
    refine g_seq ?_
    refine g_region ?_
    refine l_of (s_val (v := .int .i64 n) (wt0 rfl) rfl rfl (x_move rfl rfl) ?_)
    refine l_of (s_val (v := .agg m.cells) (wt0 rfl) rfl rfl (x_loadA H5 0 rfl rfl Try.underlying33 rfl sz33 rfl rfl rfl) ?_)
    refine l_of (s_call (wt0 rfl) (x_call' rfl rfl cl24) (field_w _ _ _) ?_)
    rintro _ wq7 ⟨rfl, H8⟩
    replace H8 : S wq7 [Ob g1 (.cells m.cells 33 (0, 0)), Old w no] := H5.absorb (new := []) H8
    refine b_ret rfl rfl ?_
    refine l_of (s_val (v := .tuple #[.string ((fieldMS n m).1), .int .i64 ((fieldMS n m).2)]) (wt0 rfl) rfl rfl (x_move rfl rfl) ?_)
    refine l_of (s_val (v := .string ((fieldMS n m).1)) (wt0 rfl) rfl rfl (x_extract rfl rfl rfl) ?_)
    refine l_of (s_val (v := .int .i64 ((fieldMS n m).2)) (wt0 rfl) rfl rfl (x_extract rfl rfl rfl) ?_)
    refine l_of (s_val (v := .string ((fieldMS n m).1)) (wt0 rfl) rfl rfl (x_assign rfl rfl) ?_)
    refine l_of (s_val (v := .int .i64 ((fieldMS n m).2)) (wt0 rfl) rfl rfl (x_assign rfl rfl) ?_)
    refine g_nil ?_
    refine g_then ?_
    refine g_seq ?_
    refine g_region ?_
    refine l_of (s_val (v := .int .i64 n) (wt0 rfl) rfl rfl (x_move rfl rfl) ?_)
    refine l_of (s_val (v := .agg m.cells) (wt0 rfl) rfl rfl (x_loadA H8 0 rfl rfl Try.underlying33 rfl sz33 rfl rfl rfl) ?_)
    refine l_of (s_call (wt0 rfl) (x_call' rfl rfl cl25) (field_m _ _ _) ?_)
    rintro _ wq9 ⟨rfl, H10⟩
    replace H10 : S wq9 [Ob g1 (.cells m.cells 33 (0, 0)), Old w no] := H8.absorb (new := []) H10
    refine b_ret rfl rfl ?_
    refine l_of (s_val (v := .tuple #[.string ((fieldMS n m).1), .int .i64 ((fieldMS n m).2)]) (wt0 rfl) rfl rfl (x_move rfl rfl) ?_)
    refine l_of (s_val (v := .string ((fieldMS n m).1)) (wt0 rfl) rfl rfl (x_extract rfl rfl rfl) ?_)
    refine l_of (s_val (v := .int .i64 ((fieldMS n m).2)) (wt0 rfl) rfl rfl (x_extract rfl rfl rfl) ?_)
    refine l_of (s_val (v := .string ((fieldMS n m).1)) (wt0 rfl) rfl rfl (x_assign rfl rfl) ?_)
    refine l_of (s_val (v := .int .i64 ((fieldMS n m).2)) (wt0 rfl) rfl rfl (x_assign rfl rfl) ?_)
    refine g_nil ?_
    refine g_then ?_
    refine g_weak [(2, .int .i64 count), (3, .int .i64 piece), (4, .int .i64 last), (5, .pointer (some ⟨g1, 0, none⟩)), (11, .string ((fieldMS n m).1)), (12, .int .i64 ((fieldMS n m).2)), (13, .string ((fieldMS n m).1)), (14, .int .i64 ((fieldMS n m).2))] ⟨rfl, rfl, rfl, rfl, rfl, rfl, rfl, rfl, trivial⟩ ?_
    refine g_seq ?_
    refine g_region ?_
    refine l_of (s_val (v := .agg m.cells) (wt0 rfl) rfl rfl (x_loadA H10 0 rfl rfl Try.underlying33 rfl sz33 rfl rfl rfl) ?_)
    refine l_of (s_call (wt0 rfl) (x_call' rfl rfl cl26) (digests_w _ _) ?_)
    rintro _ wq13 ⟨p11, c12, rfl, H14⟩
    replace H14 : S wq13 [Rw 9 1 p11 (digS m).1.length c12 (stV (digS m).1), Ob g1 (.cells m.cells 33 (0, 0)), Old w no] := H10.absorb (new := [Rw 9 1 p11 (digS m).1.length c12 (stV (digS m).1)]) H14
    refine b_ret rfl rfl ?_
    refine l_of (s_val (v := .tuple #[.slice p11 (digS m).1.length c12, .int .i64 ((digS m).2)]) (wt0 rfl) rfl rfl (x_move rfl rfl) ?_)
    refine l_of (s_val (v := .slice p11 (digS m).1.length c12) (wt0 rfl) rfl rfl (x_extract rfl rfl rfl) ?_)
    refine l_of (s_val (v := .int .i64 ((digS m).2)) (wt0 rfl) rfl rfl (x_extract rfl rfl rfl) ?_)
    refine l_of (s_val (v := .slice p11 (digS m).1.length c12) (wt0 rfl) rfl rfl (x_assign rfl rfl) ?_)
    refine l_of (s_val (v := .int .i64 ((digS m).2)) (wt0 rfl) rfl rfl (x_assign rfl rfl) ?_)
    refine g_nil ?_
    refine g_then ?_
    refine g_seq ?_
    refine g_region ?_
    refine l_of (s_val (v := .agg m.cells) (wt0 rfl) rfl rfl (x_loadA H14 1 rfl rfl Try.underlying33 rfl sz33 rfl rfl rfl) ?_)
    refine l_of (s_call (wt0 rfl) (x_call' rfl rfl cl27) (digests_r _ _) ?_)
    rintro _ wq17 ⟨p15, c16, rfl, H18⟩
    replace H18 : S wq17 [Rw 9 1 p15 (digS m).1.length c16 (stV (digS m).1), Rw 9 1 p11 (digS m).1.length c12 (stV (digS m).1), Ob g1 (.cells m.cells 33 (0, 0)), Old w no] := H14.absorb (new := [Rw 9 1 p15 (digS m).1.length c16 (stV (digS m).1)]) H18
    refine b_ret rfl rfl ?_
    refine l_of (s_val (v := .tuple #[.slice p15 (digS m).1.length c16, .int .i64 ((digS m).2)]) (wt0 rfl) rfl rfl (x_move rfl rfl) ?_)
    refine l_of (s_val (v := .slice p15 (digS m).1.length c16) (wt0 rfl) rfl rfl (x_extract rfl rfl rfl) ?_)
    refine l_of (s_val (v := .int .i64 ((digS m).2)) (wt0 rfl) rfl rfl (x_extract rfl rfl rfl) ?_)
    refine l_of (s_val (v := .slice p15 (digS m).1.length c16) (wt0 rfl) rfl rfl (x_assign rfl rfl) ?_)
    refine l_of (s_val (v := .int .i64 ((digS m).2)) (wt0 rfl) rfl rfl (x_assign rfl rfl) ?_)
    refine g_nil ?_
    refine g_then ?_
    refine g_seq ?_
    refine g_seq ?_
    refine g_quiet (by kernel_rfl) (by kernel_rfl) H18 ?_
    refine q_val (v := .string ((fieldMS n m).1)) (wt0 rfl) rfl rfl (fun wx H => x_move rfl rfl) ?_
    refine q_val (v := .string ((fieldMS n m).1)) (wt0 rfl) rfl rfl (fun wx H => x_move rfl rfl) ?_
    refine q_val (v := .bool (!decide ((fieldMS n m).1 = (fieldMS n m).1))) (wt0 rfl) rfl rfl (fun wx H => x_bin rfl rfl rfl b_nes) ?_
    refine q_val (v := .bool (!decide ((fieldMS n m).1 = (fieldMS n m).1))) (wt0 rfl) rfl rfl (fun wx H => x_move rfl rfl) ?_
    refine q_val (v := .int .i64 ((fieldMS n m).2)) (wt1 rfl rfl rfl rfl (nf rfl)) rfl rfl (fun wx H => x_move rfl rfl) ?_
    refine q_val (v := .int .i64 ((fieldMS n m).2)) (wt1 rfl rfl rfl rfl (nf rfl)) rfl rfl (fun wx H => x_move rfl rfl) ?_
    refine q_val (v := .bool (!decide (((fieldMS n m).2 : Int) = (fieldMS n m).2))) (wt1 rfl rfl rfl rfl (nf rfl)) rfl rfl (fun wx H => x_bin rfl rfl rfl b_neq) ?_
    refine q_val (v := .bool (!decide (((fieldMS n m).2 : Int) = (fieldMS n m).2))) (wt0 rfl) rfl rfl (fun wx H => x_pick_f rfl rfl (nf rfl) rfl) ?_
    refine q_val (v := .bool (!decide (((fieldMS n m).2 : Int) = (fieldMS n m).2))) (wt0 rfl) rfl rfl (fun wx H => x_move rfl rfl) ?_
    refine q_val (v := .slice p11 (digS m).1.length c12) (wt1 rfl rfl rfl rfl (nf rfl)) rfl rfl (fun wx H => x_move rfl rfl) ?_
    refine q_val (v := .int .i64 (((digS m).1.length : Int))) (wt1 rfl rfl rfl rfl (nf rfl)) rfl rfl (fun wx H => x_lenl rfl rfl Try.underlying41) ?_
    refine q_val (v := .slice p15 (digS m).1.length c16) (wt1 rfl rfl rfl rfl (nf rfl)) rfl rfl (fun wx H => x_move rfl rfl) ?_
    refine q_val (v := .int .i64 (((digS m).1.length : Int))) (wt1 rfl rfl rfl rfl (nf rfl)) rfl rfl (fun wx H => x_lenl rfl rfl Try.underlying41) ?_
    refine q_val (v := .bool (!decide ((((digS m).1.length : Int) : Int) = ((digS m).1.length : Int)))) (wt1 rfl rfl rfl rfl (nf rfl)) rfl rfl (fun wx H => x_bin rfl rfl rfl b_neq) ?_
    refine q_val (v := .bool (!decide ((((digS m).1.length : Int) : Int) = ((digS m).1.length : Int)))) (wt0 rfl) rfl rfl (fun wx H => x_pick_f rfl rfl (nf rfl) rfl) ?_
    refine q_val (v := .bool (!decide ((((digS m).1.length : Int) : Int) = ((digS m).1.length : Int)))) (wt0 rfl) rfl rfl (fun wx H => x_move rfl rfl) ?_
    refine q_val (v := .int .i64 ((digS m).2)) (wt1 rfl rfl rfl rfl (nf rfl)) rfl rfl (fun wx H => x_move rfl rfl) ?_
    refine q_val (v := .int .i64 ((digS m).2)) (wt1 rfl rfl rfl rfl (nf rfl)) rfl rfl (fun wx H => x_move rfl rfl) ?_
    refine q_val (v := .bool (!decide (((digS m).2 : Int) = (digS m).2))) (wt1 rfl rfl rfl rfl (nf rfl)) rfl rfl (fun wx H => x_bin rfl rfl rfl b_neq) ?_
    refine q_val (v := .bool (!decide (((digS m).2 : Int) = (digS m).2))) (wt0 rfl) rfl rfl (fun wx H => x_pick_f rfl rfl (nf rfl) rfl) ?_
    refine q_val (v := .bool (!decide (((digS m).2 : Int) = (digS m).2))) (wt0 rfl) rfl rfl (fun wx H => x_move rfl rfl) ?_
    refine q_val (v := .agg m.cells) (wt1 rfl rfl rfl rfl (nf rfl)) rfl rfl (fun wx H => x_loadA H 2 rfl rfl Try.underlying33 rfl sz33 rfl rfl rfl) ?_
    refine q_val (v := .int .i64 count) (wt1 rfl rfl rfl rfl (nf rfl)) rfl rfl (fun wx H => x_move rfl rfl) ?_
    refine q_val (v := .int .i64 piece) (wt1 rfl rfl rfl rfl (nf rfl)) rfl rfl (fun wx H => x_move rfl rfl) ?_
    refine q_val (v := .int .i64 last) (wt1 rfl rfl rfl rfl (nf rfl)) rfl rfl (fun wx H => x_move rfl rfl) ?_
    refine q_call (wt1 rfl rfl rfl rfl (nf rfl)) rfl rfl (fun wx H => x_call' rfl rfl cl28) (fun wx H => (fits_w _ _ _ _ _).mono (by rintro _ _ ⟨rfl, h⟩; exact ⟨rfl, H.absorb (new := []) h⟩)) ?_
    refine q_val (v := .agg m.cells) (wt1 rfl rfl rfl rfl (nf rfl)) rfl rfl (fun wx H => x_loadA H 2 rfl rfl Try.underlying33 rfl sz33 rfl rfl rfl) ?_
    refine q_val (v := .int .i64 count) (wt1 rfl rfl rfl rfl (nf rfl)) rfl rfl (fun wx H => x_move rfl rfl) ?_
    refine q_val (v := .int .i64 piece) (wt1 rfl rfl rfl rfl (nf rfl)) rfl rfl (fun wx H => x_move rfl rfl) ?_
    refine q_val (v := .int .i64 last) (wt1 rfl rfl rfl rfl (nf rfl)) rfl rfl (fun wx H => x_move rfl rfl) ?_
    refine q_call (wt1 rfl rfl rfl rfl (nf rfl)) rfl rfl (fun wx H => x_call' rfl rfl cl29) (fun wx H => (fitsM_r _ _ _ _ _).mono (by rintro _ _ ⟨rfl, h⟩; exact ⟨rfl, H.absorb (new := []) h⟩)) ?_
    refine q_val (v := .bool (!((fitsS m count piece last) == (fitsS m count piece last)))) (wt1 rfl rfl rfl rfl (nf rfl)) rfl rfl (fun wx H => x_bin rfl rfl rfl (b_neN Try.underlying4 rfl)) ?_
    refine q_val (v := .bool (!((fitsS m count piece last) == (fitsS m count piece last)))) (wt0 rfl) rfl rfl (fun wx H => x_pick_f rfl rfl (nf rfl) rfl) ?_
    refine q_nil (fun wq19 H20 => ?_)
    refine g_then ?_
    refine g_weak [(15, .slice p11 (digS m).1.length c12), (17, .slice p15 (digS m).1.length c16), (78, .bool (!((fitsS m count piece last) == (fitsS m count piece last))))] ⟨rfl, rfl, rfl, trivial⟩ ?_
    refine g_cond_f rfl (neg_of (beq_self_eq_true (fitsS m count piece last))) ?_
    refine g_skip ?_
    refine g_then ?_
    refine g_seq ?_
    refine g_seq ?_
    refine g_region ?_
    refine l_of (s_val (v := .slice p11 (digS m).1.length c12) (wt0 rfl) rfl rfl (x_move rfl rfl) ?_)
    refine l_of (s_val (v := .int .i64 (((digS m).1.length : Int))) (wt0 rfl) rfl rfl (x_lenl rfl rfl Try.underlying41) ?_)
    refine l_of (s_val (v := .int .i64 0) (wt0 rfl) rfl rfl (x_move rfl rfl) ?_)
    refine g_nil ?_
    refine g_then ?_
    refine g_block ?_
    refine g_loop (ι := Nat) (fun i => [(15, .slice p11 (digS m).1.length c12), (17, .slice p15 (digS m).1.length c16), (80, .int .i64 (((digS m).1.length : Int))), (81, .int .i64 ((i : Int)))]) (fun i wx => (i ≤ (digS m).1.length) ∧ S wx [Rw 9 1 p15 (digS m).1.length c16 (stV (digS m).1), Rw 9 1 p11 (digS m).1.length c12 (stV (digS m).1), Ob g1 (.cells m.cells 33 (0, 0)), Old w no]) (fun i => (digS m).1.length - i) (0) ⟨rfl, rfl, rfl, rfl, trivial⟩ ⟨Nat.zero_le _, H20⟩ ?_
    rintro i wq21 ⟨hi, H22⟩
    replace H22 : S wq21 [Rw 9 1 p15 (digS m).1.length c16 (stV (digS m).1), Rw 9 1 p11 (digS m).1.length c12 (stV (digS m).1), Ob g1 (.cells m.cells 33 (0, 0)), Old w no] := H22
    refine g_weak [(15, .slice p11 (digS m).1.length c12), (17, .slice p15 (digS m).1.length c16), (80, .int .i64 (((digS m).1.length : Int))), (81, .int .i64 ((i : Int)))] ⟨rfl, rfl, rfl, rfl, trivial⟩ ?_
    have hdl : (digS m).1.length ≤ 9223372036854775807 := by have h1 := (H22.rw (k := 0) rfl).2.1; have h2 := (H22.rw (k := 0) rfl).2.2.1; unfold maxLen at h2; omega
    refine g_seq ?_
    refine g_region ?_
    refine l_of (s_val (v := .bool (decide (((i : Int) : Int) < ((digS m).1.length : Int)))) (wt0 rfl) rfl rfl (x_bin rfl rfl rfl b_lss) ?_)
    refine g_nil ?_
    refine g_then ?_
    refine g_seq ?_
    by_cases hb23 : ((i : Int) : Int) < ((digS m).1.length : Int)
    · skip
      have hx : (digS m).1[i]? = some ((digS m).1.getD (i) ⟨#[]⟩) := by rw [List.getD_eq_getElem?_getD, List.getElem?_eq_getElem (by omega)]; rfl
      have hsp15 := H22.rwSome' (k := 0) rfl (by omega)
      have hsp11 := H22.rwSome' (k := 1) rfl (by omega)
      refine g_cond_t rfl (decide_eq_true hb23) ?_
      refine g_skip ?_
      refine g_then ?_
      refine g_seq ?_
      refine g_block ?_
      refine g_seq ?_
      refine g_region ?_
      refine l_of (s_val (v := .int .i64 ((i : Int))) (wt0 rfl) rfl rfl (x_move rfl rfl) ?_)
      refine l_of (s_val (v := .int .i64 ((i : Int))) (wt0 rfl) rfl rfl (x_assign rfl rfl) ?_)
      refine g_nil ?_
      refine g_then ?_
      refine g_seq ?_
      refine g_quiet (by kernel_rfl) (by kernel_rfl) H22 ?_
      refine q_val (v := .slice p11 (digS m).1.length c12) (wt0 rfl) rfl rfl (fun wx H => x_move rfl rfl) ?_
      refine q_val (v := .int .i64 ((i : Int))) (wt0 rfl) rfl rfl (fun wx H => x_move rfl rfl) ?_
      refine q_val (v := .pointer ((p11).map fun q => q.add (i * 1))) (wt0 rfl) rfl rfl (fun wx H => x_idxP i (hsp11) rfl rfl rfl Try.underlying41 sz9 (by omega)) ?_
      refine q_val (v := .string (((digS m).1.getD (i) ⟨#[]⟩))) (wt0 rfl) rfl rfl (fun wx H => x_loadR1 i (H.rwReads (k := 1) rfl) (by omega) rfl rfl Try.underlying9 rfl (stV_at hx)) ?_
      refine q_val (v := .slice p15 (digS m).1.length c16) (wt0 rfl) rfl rfl (fun wx H => x_move rfl rfl) ?_
      refine q_val (v := .int .i64 ((i : Int))) (wt0 rfl) rfl rfl (fun wx H => x_move rfl rfl) ?_
      refine q_val (v := .pointer ((p15).map fun q => q.add (i * 1))) (wt0 rfl) rfl rfl (fun wx H => x_idxP i (hsp15) rfl rfl rfl Try.underlying41 sz9 (by omega)) ?_
      refine q_val (v := .string (((digS m).1.getD (i) ⟨#[]⟩))) (wt0 rfl) rfl rfl (fun wx H => x_loadR1 i (H.rwReads (k := 0) rfl) (by omega) rfl rfl Try.underlying9 rfl (stV_at hx)) ?_
      refine q_val (v := .bool (!decide (((digS m).1.getD (i) ⟨#[]⟩) = ((digS m).1.getD (i) ⟨#[]⟩)))) (wt0 rfl) rfl rfl (fun wx H => x_bin rfl rfl rfl b_nes) ?_
      refine q_nil (fun wq24 H25 => ?_)
      refine g_then ?_
      refine g_cond_f rfl (nf rfl) ?_
      refine g_skip ?_
      refine g_in ?_
      refine g_then ?_
      refine g_weak [(15, .slice p11 (digS m).1.length c12), (17, .slice p15 (digS m).1.length c16), (80, .int .i64 (((digS m).1.length : Int))), (81, .int .i64 ((i : Int)))] ⟨rfl, rfl, rfl, rfl, trivial⟩ ?_
      refine g_region ?_
      refine l_of (s_val (v := .int .i64 ((i : Int) + 1)) (wt0 rfl) rfl rfl (x_bin rfl rfl rfl (b_add (w64 (by omega)))) ?_)
      refine l_of (s_val (v := .int .i64 ((i : Int) + 1)) (wt0 rfl) rfl rfl (x_move rfl rfl) ?_)
      refine g_nil ?_
      refine g_then ?_
      refine g_round (i := (i)) (i + 1) ?_ ?_ ?_
      · exact ⟨rfl, rfl, rfl, rfl, trivial⟩
      · exact ⟨by omega, H25⟩
      · (try dsimp only); omega
    · skip
      refine g_cond_f rfl (decide_eq_false hb23) ?_
      refine g_exit ?_
      refine g_then_exit ?_
      refine g_then_exit ?_
      refine g_in_hit ?_
      refine g_then ?_
      refine g_seq ?_
      refine g_region ?_
      refine l_of (s_call (wt0 rfl) (x_call' rfl rfl cl10) (awake_p _) ?_)
      rintro _ wq26 ⟨rfl, H27⟩
      replace H27 : S wq26 [Rw 9 1 p15 (digS m).1.length c16 (stV (digS m).1), Rw 9 1 p11 (digS m).1.length c12 (stV (digS m).1), Ob g1 (.cells m.cells 33 (0, 0)), Old w no] := H22.absorb (new := []) (S.of_below H27)
      refine b_ret rfl rfl ?_
      refine l_of (s_val (v := .bool true) (wt0 rfl) rfl rfl (x_assign rfl rfl) ?_)
      refine g_nil ?_
      refine g_then ?_
      refine g_ret ?_
      refine fin_ret [.tmp 10] [.bool true] rfl ⟨rfl, trivial⟩ ?_
      exact ⟨rfl, (H27.mask [false, false, false, true]).below (new := [])⟩
  · skip
    refine g_cond_t rfl (neg_of hb6) ?_
    refine g_seq ?_
    refine g_region ?_
    refine l_of (s_call (wt0 rfl) (x_call' rfl rfl cl10) (awake_p _) ?_)
    rintro _ wq28 ⟨rfl, H29⟩
    replace H29 : S wq28 [Ob g1 (.cells m.cells 33 (0, 0)), Old w no] := H5.absorb (new := []) (S.of_below H29)
    refine b_ret rfl rfl ?_
    refine l_of (s_val (v := .bool true) (wt0 rfl) rfl rfl (x_assign rfl rfl) ?_)
    refine g_nil ?_
    refine g_then ?_
    refine g_ret ?_
    refine g_then_ret ?_
    refine fin_ret [.tmp 10] [.bool true] rfl ⟨rfl, trivial⟩ ?_
    exact ⟨rfl, (H29.mask [false, true]).below (new := [])⟩
end Go.Proofs.Ytcjmdkklbbollaa
