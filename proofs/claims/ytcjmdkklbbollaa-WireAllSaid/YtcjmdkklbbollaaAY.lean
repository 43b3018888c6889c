import Derived.Test.YtcjmdkklbbollaaAX
set_option linter.unusedSimpArgs false
set_option linter.unusedVariables false
namespace Go.Proofs.Ytcjmdkklbbollaa
open Go.RowKit

theorem cl30 : callable Try.prog 30 = true := by kernel_rfl
theorem cl31 : callable Try.prog 31 = true := by kernel_rfl
theorem cl32 : callable Try.prog 32 = true := by kernel_rfl
theorem cl33 : callable Try.prog 33 = true := by kernel_rfl
theorem cl34 : callable Try.prog 34 = true := by kernel_rfl
theorem cl35 : callable Try.prog 35 = true := by kernel_rfl
theorem all_light {l : List M} {n : Nat} (h : ∀ m ∈ l.take n, lightB m = true) (hn : l.length ≤ n := by omega) : ∀ m ∈ l, m.data.size ≤ 5000 := fun m hm => by
  rw [List.take_of_length_le hn] at h
  have := light_most (h m hm); omega
theorem light_next {l : List M} {i : Nat} {m : M} (hm : l[i]? = some m) (h : ∀ x ∈ l.take i, lightB x = true) (hl : lightB m = true) : ∀ x ∈ l.take (i + 1), lightB x = true := fun x hx => by
  obtain ⟨hi, rfl⟩ := List.getElem?_eq_some_iff.1 hm
  rw [List.take_succ_eq_append_getElem hi] at hx
  rcases List.mem_append.1 hx with hx | hx
  · exact h x hx
  · rw [List.mem_singleton] at hx; rw [hx]; exact hl
theorem dsum_most : ∀ {l : List M}, (∀ x ∈ l, lightB x = true) → dsum l ≤ 5000 * l.length
  | [], _ => by show (0 : Nat) ≤ _; omega
  | m :: l, h => by
    have h1 := light_most (h m (List.mem_cons_self ..))
    have h2 := dsum_most (l := l) (fun x hx => h x (List.mem_cons_of_mem _ hx))
    have e : dsum (m :: l) = m.data.size + dsum l := by unfold dsum; simp
    rw [e, List.length_cons]; omega
theorem feed_ok {r : Rdr} {B : Nat} (h : r.Ok B) (s : ByteArray) (hB : B + s.size ≤ 1099511627776) : (feedR r s).1.Ok (B + s.size) := by
  have hup : r.Ok (B + s.size) := by
    obtain ⟨h1, h2, h3, h4, h5, h6, h7, h8⟩ := h
    exact ⟨hB, h2, h3, h4, by omega, by omega, by omega, h8⟩
  unfold feedR
  split
  · exact hup
  split
  · exact hup
  split
  · exact hup
  · rename_i h4
    exact steps_ok _ (h.fed s hB (by omega))
set_option maxRecDepth 20000 in
set_option maxHeartbeats 4000000 in
set_option maxRecDepth 20000 in
set_option maxHeartbeats 4000000 in
theorem all_law (p : Option Addr) (n c : Nat) (l : List M) (hn : n = l.length) (hn6 : n ≤ 9223372036854775807) (w : World) (hr : Reads w p n c 8 (msgsV l)) : Calls Try.prog 7 #[.slice p n c] w fun e w' => e = .returned (.bool true) ∧ Sub w w' := by
  have H0 := S.old w
  refine enter 91 Try.func7 rfl rfl rfl ?_
  refine g_weak [(0, .slice p n c)] ⟨rfl, trivial⟩ ?_
  refine g_seq ?_
  refine g_region ?_
  refine l_of (s_val (v := .bool false) (wt0 rfl) rfl rfl (x_assign rfl rfl) ?_)
  refine g_nil ?_
  refine g_then ?_
  refine g_seq ?_
  refine g_region ?_
  refine l_of (s_val (v := .int .i64 0) (wt0 rfl) rfl rfl (x_assign rfl rfl) ?_)
  refine g_nil ?_
  refine g_then ?_
  refine g_seq ?_
  refine g_seq ?_
  refine g_region ?_
  refine l_of (s_val (v := .slice p n c) (wt0 rfl) rfl rfl (x_move rfl rfl) ?_)
  refine l_of (s_val (v := .int .i64 ((n : Int))) (wt0 rfl) rfl rfl (x_lenl rfl rfl Try.underlying46) ?_)
  refine l_of (s_val (v := .int .i64 0) (wt0 rfl) rfl rfl (x_move rfl rfl) ?_)
  refine g_nil ?_
  refine g_then ?_
  refine g_block ?_
  refine g_loop (ι := Nat × Int) (fun (i, nn) => [(0, .slice p n c), (3, .int .i64 nn), (15, .slice p n c), (16, .int .i64 ((n : Int))), (17, .int .i64 ((i : Int)))]) (fun (i, nn) wx => (i ≤ n) ∧ (i ≤ 30 → nn = dsum (l.take i)) ∧ (∀ m ∈ l.take i, lightB m = true) ∧ S wx [Old w no]) (fun (i, nn) => n - i) (0, 0) ⟨rfl, rfl, rfl, rfl, rfl, trivial⟩ ⟨Nat.zero_le _, fun _ => rfl, fun m hm => by simp at hm, H0⟩ ?_
  rintro ⟨i, nn⟩ wq1 ⟨hi, hnn, hlt, H2⟩
  replace H2 : S wq1 [Old w no] := H2
  refine g_weak [(0, .slice p n c), (3, .int .i64 nn), (15, .slice p n c), (16, .int .i64 ((n : Int))), (17, .int .i64 ((i : Int)))] ⟨rfl, rfl, rfl, rfl, rfl, trivial⟩ ?_
  refine g_seq ?_
  refine g_region ?_
  refine l_of (s_val (v := .bool (decide (((i : Int) : Int) < (n : Int)))) (wt0 rfl) rfl rfl (x_bin rfl rfl rfl b_lss) ?_)
  refine g_nil ?_
  refine g_then ?_
  refine g_seq ?_
  by_cases hb3 : ((i : Int) : Int) < (n : Int)
  · skip
    obtain ⟨m, hm⟩ : ∃ m, l[i]? = some m := ⟨_, List.getElem?_eq_getElem (by omega)⟩
    refine g_cond_t rfl (decide_eq_true hb3) ?_
    refine g_skip ?_
    refine g_then ?_
    refine g_seq ?_
    refine g_block ?_
    refine g_seq ?_
    refine g_region ?_
    refine l_of (s_val (v := .pointer ((p).map fun q => q.add (i * 8))) (wt0 rfl) rfl rfl (x_idxR i (H2.oldReads (k := 0) rfl hr) rfl rfl rfl Try.underlying46 sz33 (by omega)) ?_)
    refine l_of (s_val (v := .agg m.cells) (wt0 rfl) rfl rfl (x_loadRA (vs := cellsL m) i (H2.oldReads (k := 0) rfl hr) (by omega) rfl rfl Try.underlying33 rfl sz33 (by rfl) (flat_at (fun a _ => cellsL_len a) hm)) ?_)
    refine l_of (s_alloc H2 (wt0 rfl) rfl rfl rfl ze33 ?_)
    intro g4 wq5 (H6 : S wq5 [Ob g4 (.cells #[.int .i64 0, .int .i64 0, .int .i64 0, .int .i64 0, .int .i64 0, .int .i64 0, .string (⟨#[]⟩), .string (⟨#[]⟩)] 33 (0, 0)), Old w no])
    refine l_of (s_store H6 0 (wt0 rfl) rfl rfl rfl rfl rfl sz33 rfl rfl (cs' := m.cells) rfl ?_)
    intro wq7 (H8 : S wq7 [Ob g4 (.cells m.cells 33 (0, 0)), Old w no])
    refine g_nil ?_
    refine g_then ?_
    refine g_seq ?_
    refine g_seq ?_
    refine g_region ?_
    refine l_of (s_val (v := .agg m.cells) (wt0 rfl) rfl rfl (x_loadA H8 0 rfl rfl Try.underlying33 rfl sz33 rfl rfl rfl) ?_)
    refine l_of (s_call (wt0 rfl) (x_call' rfl rfl cl17) (light_p _ _) ?_)
    rintro _ wq9 ⟨rfl, H10⟩
    replace H10 : S wq9 [Ob g4 (.cells m.cells 33 (0, 0)), Old w no] := H8.absorb (new := []) H10
    refine b_ret rfl rfl ?_
    refine l_of (s_val (v := .bool (!(lightB m))) (wt0 rfl) rfl rfl (x_not (b := lightB m) rfl rfl) ?_)
    refine g_nil ?_
    refine g_then ?_
    rcases Bool.eq_false_or_eq_true (lightB m) with hb11 | hb11
    · skip
      have hml := light_most hb11
      refine g_cond_f rfl (neg_of hb11) ?_
      refine g_skip ?_
      refine g_then ?_
      refine g_region ?_
      refine l_of (s_val (v := .int .i64 nn) (wt0 rfl) rfl rfl (x_move rfl rfl) ?_)
      refine l_of (s_val (v := .pointer (some ⟨g4, 7, none⟩)) (wt0 rfl) rfl rfl (x_fieldAddr rfl rfl fo33_7 rfl) ?_)
      refine l_of (s_val (v := .string (m.data)) (wt0 rfl) rfl rfl (x_load1 H10 0 rfl rfl Try.underlying9 rfl rfl rfl) ?_)
      refine l_of (s_val (v := .int .i64 ((m.data.size : Int))) (wt0 rfl) rfl rfl (x_lens rfl rfl Try.underlying9) ?_)
      refine l_of (s_val (v := .int .i64 (IntKind.i64.wrap (nn + (m.data.size : Int)))) (wt0 rfl) rfl rfl (x_bin rfl rfl rfl (b_add rfl)) ?_)
      refine l_of (s_val (v := .int .i64 (IntKind.i64.wrap (nn + (m.data.size : Int)))) (wt0 rfl) rfl rfl (x_assign rfl rfl) ?_)
      refine g_nil ?_
      refine g_in ?_
      refine g_then ?_
      refine g_weak [(0, .slice p n c), (3, .int .i64 (IntKind.i64.wrap (nn + (m.data.size : Int)))), (15, .slice p n c), (16, .int .i64 ((n : Int))), (17, .int .i64 ((i : Int)))] ⟨rfl, rfl, rfl, rfl, rfl, trivial⟩ ?_
      refine g_region ?_
      refine l_of (s_val (v := .int .i64 ((i : Int) + 1)) (wt0 rfl) rfl rfl (x_bin rfl rfl rfl (b_add (w64 (by omega)))) ?_)
      refine l_of (s_val (v := .int .i64 ((i : Int) + 1)) (wt0 rfl) rfl rfl (x_move rfl rfl) ?_)
      refine g_nil ?_
      refine g_then ?_
      refine g_round (i := (i, nn)) (i + 1, IntKind.i64.wrap (nn + (m.data.size : Int))) ?_ ?_ ?_
      · exact ⟨rfl, rfl, rfl, rfl, rfl, trivial⟩
      · exact ⟨by omega, (fun h => by have h1 := dsum_most hlt; have h2 : (l.take i).length ≤ i := (by rw [List.length_take]; omega); have h3 : 5000 * (l.take i).length ≤ 5000 * 30 := Nat.mul_le_mul_left _ (by omega); rw [hnn (by omega), dsum_next hm, w64 (by omega)]; omega), (light_next hm hlt hb11), (H10.mask [false, true])⟩
      · (try dsimp only); omega
    · skip
      refine g_cond_t rfl (neg_of hb11) ?_
      refine g_seq ?_
      refine g_region ?_
      refine l_of (s_call (wt0 rfl) (x_call' rfl rfl cl10) (awake_p _) ?_)
      rintro _ wq12 ⟨rfl, H13⟩
      replace H13 : S wq12 [Ob g4 (.cells m.cells 33 (0, 0)), Old w no] := H10.absorb (new := []) (S.of_below H13)
      refine b_ret rfl rfl ?_
      refine l_of (s_val (v := .bool true) (wt0 rfl) rfl rfl (x_assign rfl rfl) ?_)
      refine g_nil ?_
      refine g_then ?_
      refine g_weak [(2, .bool true)] ⟨rfl, trivial⟩ ?_
      refine g_ret ?_
      refine g_then_ret ?_
      refine g_in_ret ?_
      refine g_then_ret ?_
      refine g_then_ret ?_
      refine g_in_ret ?_
      refine g_then_ret ?_
      refine fin_ret [.tmp 2] [.bool true] rfl ⟨rfl, trivial⟩ ?_
      exact ⟨rfl, (H13.mask [false, true]).below (new := [])⟩
  · skip
    refine g_cond_f rfl (decide_eq_false hb3) ?_
    refine g_exit ?_
    refine g_then_exit ?_
    refine g_then_exit ?_
    refine g_in_hit ?_
    refine g_then ?_
    refine g_seq ?_
    refine g_seq ?_
    refine g_region ?_
    refine l_of (s_val (v := .slice p n c) (wt0 rfl) rfl rfl (x_move rfl rfl) ?_)
    refine l_of (s_val (v := .int .i64 ((n : Int))) (wt0 rfl) rfl rfl (x_lenl rfl rfl Try.underlying46) ?_)
    refine l_of (s_val (v := .bool (decide ((30 : Int) < (n : Int)))) (wt0 rfl) rfl rfl (x_bin rfl rfl rfl b_gtr) ?_)
    refine l_of (s_val (v := .bool (decide ((30 : Int) < (n : Int)))) (wt0 rfl) rfl rfl (x_move rfl rfl) ?_)
    by_cases hb14 : (30 : Int) < (n : Int)
    · skip
      refine l_of (s_not (wn1 rfl rfl rfl rfl (decide_eq_true hb14)) rfl rfl ?_)
      refine l_of (s_not (wn1 rfl rfl rfl rfl (decide_eq_true hb14)) rfl rfl ?_)
      refine l_of (s_val (v := .bool true) (wt0 rfl) rfl rfl (x_pick_t rfl rfl (decide_eq_true hb14) rfl) ?_)
      refine g_nil ?_
      refine g_then ?_
      refine g_cond_t rfl rfl ?_
      refine g_seq ?_
      refine g_region ?_
      refine l_of (s_call (wt0 rfl) (x_call' rfl rfl cl10) (awake_p _) ?_)
      rintro _ wq15 ⟨rfl, H16⟩
      replace H16 : S wq15 [Old w no] := H2.absorb (new := []) (S.of_below H16)
      refine b_ret rfl rfl ?_
      refine l_of (s_val (v := .bool true) (wt0 rfl) rfl rfl (x_assign rfl rfl) ?_)
      refine g_nil ?_
      refine g_then ?_
      refine g_weak [(2, .bool true)] ⟨rfl, trivial⟩ ?_
      refine g_ret ?_
      refine g_then_ret ?_
      refine fin_ret [.tmp 2] [.bool true] rfl ⟨rfl, trivial⟩ ?_
      exact ⟨rfl, (H16.mask [true]).below (new := [])⟩
    · skip
      refine l_of (s_val (v := .int .i64 nn) (wt1 rfl rfl rfl rfl (decide_eq_false hb14)) rfl rfl (x_move rfl rfl) ?_)
      refine l_of (s_val (v := .bool (decide ((10000 : Int) < nn))) (wt1 rfl rfl rfl rfl (decide_eq_false hb14)) rfl rfl (x_bin rfl rfl rfl b_gtr) ?_)
      refine l_of (s_val (v := .bool (decide ((10000 : Int) < nn))) (wt0 rfl) rfl rfl (x_pick_f rfl rfl (decide_eq_false hb14) rfl) ?_)
      refine g_nil ?_
      refine g_then ?_
      by_cases hb17 : (10000 : Int) < nn
      · skip
        refine g_cond_t rfl (decide_eq_true hb17) ?_
        refine g_seq ?_
        refine g_region ?_
        refine l_of (s_call (wt0 rfl) (x_call' rfl rfl cl10) (awake_p _) ?_)
        rintro _ wq18 ⟨rfl, H19⟩
        replace H19 : S wq18 [Old w no] := H2.absorb (new := []) (S.of_below H19)
        refine b_ret rfl rfl ?_
        refine l_of (s_val (v := .bool true) (wt0 rfl) rfl rfl (x_assign rfl rfl) ?_)
        refine g_nil ?_
        refine g_then ?_
        refine g_weak [(2, .bool true)] ⟨rfl, trivial⟩ ?_
        refine g_ret ?_
        refine g_then_ret ?_
        refine fin_ret [.tmp 2] [.bool true] rfl ⟨rfl, trivial⟩ ?_
        exact ⟨rfl, (H19.mask [true]).below (new := [])⟩
      · skip
        have hds := hnn (by omega)
        have htk : l.take i = l := List.take_of_length_le (by omega)
        refine g_cond_f rfl (decide_eq_false hb17) ?_
        refine g_skip ?_
        refine g_then ?_
        refine g_weak [(0, .slice p n c)] ⟨rfl, trivial⟩ ?_
        refine g_seq ?_
        refine g_region ?_
        refine l_of (s_val (v := .slice p n c) (wt0 rfl) rfl rfl (x_move rfl rfl) ?_)
        refine l_of (s_call (wt0 rfl) (x_call' rfl rfl cl30) (all_w p n c l hn (by omega) _ (H2.oldReads (k := 0) rfl hr)) ?_)
        rintro _ wq20 ⟨rfl, H21⟩
        replace H21 : S wq20 [Old w no] := H2.absorb (new := []) H21
        refine b_ret rfl rfl ?_
        refine l_of (s_val (v := .tuple #[.string ((allT l ⟨#[]⟩).1), .int .i64 ((allT l ⟨#[]⟩).2)]) (wt0 rfl) rfl rfl (x_move rfl rfl) ?_)
        refine l_of (s_val (v := .string ((allT l ⟨#[]⟩).1)) (wt0 rfl) rfl rfl (x_extract rfl rfl rfl) ?_)
        refine l_of (s_val (v := .int .i64 ((allT l ⟨#[]⟩).2)) (wt0 rfl) rfl rfl (x_extract rfl rfl rfl) ?_)
        refine l_of (s_val (v := .string ((allT l ⟨#[]⟩).1)) (wt0 rfl) rfl rfl (x_assign rfl rfl) ?_)
        refine l_of (s_val (v := .int .i64 ((allT l ⟨#[]⟩).2)) (wt0 rfl) rfl rfl (x_assign rfl rfl) ?_)
        refine g_nil ?_
        refine g_then ?_
        refine g_seq ?_
        refine g_region ?_
        refine l_of (s_val (v := .slice p n c) (wt0 rfl) rfl rfl (x_move rfl rfl) ?_)
        refine l_of (s_call (wt0 rfl) (x_call' rfl rfl cl31) (all_r p n c l hn (by omega) (all_light hlt) _ (H21.oldReads (k := 0) rfl hr)) ?_)
        rintro _ wq22 ⟨rfl, H23⟩
        replace H23 : S wq22 [Old w no] := H21.absorb (new := []) H23
        refine b_ret rfl rfl ?_
        refine l_of (s_val (v := .tuple #[.string ((allT l ⟨#[]⟩).1), .int .i64 ((allT l ⟨#[]⟩).2)]) (wt0 rfl) rfl rfl (x_move rfl rfl) ?_)
        refine l_of (s_val (v := .string ((allT l ⟨#[]⟩).1)) (wt0 rfl) rfl rfl (x_extract rfl rfl rfl) ?_)
        refine l_of (s_val (v := .int .i64 ((allT l ⟨#[]⟩).2)) (wt0 rfl) rfl rfl (x_extract rfl rfl rfl) ?_)
        refine l_of (s_val (v := .string ((allT l ⟨#[]⟩).1)) (wt0 rfl) rfl rfl (x_assign rfl rfl) ?_)
        refine l_of (s_val (v := .int .i64 ((allT l ⟨#[]⟩).2)) (wt0 rfl) rfl rfl (x_assign rfl rfl) ?_)
        refine g_nil ?_
        refine g_then ?_
        refine g_seq ?_
        refine g_seq ?_
        refine g_region ?_
        refine l_of (s_val (v := .string ((allT l ⟨#[]⟩).1)) (wt0 rfl) rfl rfl (x_move rfl rfl) ?_)
        refine l_of (s_val (v := .string ((allT l ⟨#[]⟩).1)) (wt0 rfl) rfl rfl (x_move rfl rfl) ?_)
        refine l_of (s_val (v := .bool (!decide ((allT l ⟨#[]⟩).1 = (allT l ⟨#[]⟩).1))) (wt0 rfl) rfl rfl (x_bin rfl rfl rfl b_nes) ?_)
        refine l_of (s_val (v := .bool (!decide ((allT l ⟨#[]⟩).1 = (allT l ⟨#[]⟩).1))) (wt0 rfl) rfl rfl (x_move rfl rfl) ?_)
        refine l_of (s_val (v := .int .i64 ((allT l ⟨#[]⟩).2)) (wt1 rfl rfl rfl rfl (nf rfl)) rfl rfl (x_move rfl rfl) ?_)
        refine l_of (s_val (v := .int .i64 ((allT l ⟨#[]⟩).2)) (wt1 rfl rfl rfl rfl (nf rfl)) rfl rfl (x_move rfl rfl) ?_)
        refine l_of (s_val (v := .bool (!decide (((allT l ⟨#[]⟩).2 : Int) = (allT l ⟨#[]⟩).2))) (wt1 rfl rfl rfl rfl (nf rfl)) rfl rfl (x_bin rfl rfl rfl b_neq) ?_)
        refine l_of (s_val (v := .bool (!decide (((allT l ⟨#[]⟩).2 : Int) = (allT l ⟨#[]⟩).2))) (wt0 rfl) rfl rfl (x_pick_f rfl rfl (nf rfl) rfl) ?_)
        refine g_nil ?_
        refine g_then ?_
        refine g_weak [(0, .slice p n c), (6, .string ((allT l ⟨#[]⟩).1)), (7, .int .i64 ((allT l ⟨#[]⟩).2)), (56, .bool (!decide (((allT l ⟨#[]⟩).2 : Int) = (allT l ⟨#[]⟩).2)))] ⟨rfl, rfl, rfl, rfl, trivial⟩ ?_
        refine g_cond_f rfl (nf rfl) ?_
        refine g_skip ?_
        refine g_then ?_
        refine g_seq ?_
        refine g_seq ?_
        refine g_region ?_
        refine l_of (s_val (v := .int .i64 ((allT l ⟨#[]⟩).2)) (wt0 rfl) rfl rfl (x_move rfl rfl) ?_)
        refine l_of (s_val (v := .bool (decide (((allT l ⟨#[]⟩).2 : Int) = 0))) (wt0 rfl) rfl rfl (x_bin rfl rfl rfl b_eql) ?_)
        refine g_nil ?_
        refine g_then ?_
        by_cases hb24 : ((allT l ⟨#[]⟩).2 : Int) = 0
        · skip
          have hen := allT_ok hb24
          have hca := catE_small hen.1
          have hsa : (allT l ⟨#[]⟩).1.size ≤ 61000 := by rw [allT_nil_app l hb24]; rw [htk] at hds; omega
          obtain ⟨hf0, hfm⟩ := feed_all hb24 hsa
          have hfok := feed_ok (newR_ok false) (allT l ⟨#[]⟩).1 (by omega)
          refine g_cond_t rfl (decide_eq_true hb24) ?_
          refine g_seq ?_
          refine g_region ?_
          refine l_of (s_call (wt0 rfl) (x_call' rfl rfl cl32) (new_p _ _) ?_)
          rintro _ wq25 ⟨gr, rfl, H26⟩
          replace H26 : S wq25 [Ob gr (.cells #[.slice none (newR false).ms.length 0, .slice none (newR false).ms.length 0, .int .i64 ((newR false).bytes), .bool ((newR false).greet), .bool ((newR false).hello.e), .bool ((newR false).hello.f), .bool ((newR false).hello.n), .string ((newR false).hello.name), .string ((newR false).hello.peer), .bool ((newR false).told), .string ((newR false).left), .int .i64 ((newR false).done), .int .i64 ((newR false).wrong)] 108 (0, 0)), Rw 33 8 none (newR false).ms.length 0 (msgsV (newR false).ms), Rw 3 1 none (newR false).ms.length 0 (zsV (newR false).zs), Old w no] := H23.absorb (new := [Ob gr (.cells #[.slice none (newR false).ms.length 0, .slice none (newR false).ms.length 0, .int .i64 ((newR false).bytes), .bool ((newR false).greet), .bool ((newR false).hello.e), .bool ((newR false).hello.f), .bool ((newR false).hello.n), .string ((newR false).hello.name), .string ((newR false).hello.peer), .bool ((newR false).told), .string ((newR false).left), .int .i64 ((newR false).done), .int .i64 ((newR false).wrong)] 108 (0, 0)), Rw 33 8 none (newR false).ms.length 0 (msgsV (newR false).ms), Rw 3 1 none (newR false).ms.length 0 (zsV (newR false).zs)]) H26
          refine b_ret rfl rfl ?_
          refine l_of (s_val (v := .pointer (some ⟨gr, 0, none⟩)) (wt0 rfl) rfl rfl (x_assign rfl rfl) ?_)
          refine g_nil ?_
          refine g_then ?_
          refine g_seq ?_
          refine g_seq ?_
          refine g_region ?_
          refine l_of (s_val (v := .pointer (some ⟨gr, 0, none⟩)) (wt0 rfl) rfl rfl (x_move rfl rfl) ?_)
          refine l_of (s_val (v := .string ((allT l ⟨#[]⟩).1)) (wt0 rfl) rfl rfl (x_move rfl rfl) ?_)
          refine l_of (s_call (wt0 rfl) (x_call' rfl rfl cl33) (feed_p gr (newR false) (newR_ok false) (allT l ⟨#[]⟩).1 (by omega) none none 0 0 _ (H26.takes [0, 1, 2] (by decide))) ?_)
          rintro _ wq31 ⟨rfl, p27, c28, p29, c30, H32⟩
          replace H32 : S wq31 [Ob gr (.cells #[.slice p27 (feedR (newR false) (allT l ⟨#[]⟩).1).1.ms.length c28, .slice p29 (feedR (newR false) (allT l ⟨#[]⟩).1).1.ms.length c30, .int .i64 ((feedR (newR false) (allT l ⟨#[]⟩).1).1.bytes), .bool ((feedR (newR false) (allT l ⟨#[]⟩).1).1.greet), .bool ((feedR (newR false) (allT l ⟨#[]⟩).1).1.hello.e), .bool ((feedR (newR false) (allT l ⟨#[]⟩).1).1.hello.f), .bool ((feedR (newR false) (allT l ⟨#[]⟩).1).1.hello.n), .string ((feedR (newR false) (allT l ⟨#[]⟩).1).1.hello.name), .string ((feedR (newR false) (allT l ⟨#[]⟩).1).1.hello.peer), .bool ((feedR (newR false) (allT l ⟨#[]⟩).1).1.told), .string ((feedR (newR false) (allT l ⟨#[]⟩).1).1.left), .int .i64 ((feedR (newR false) (allT l ⟨#[]⟩).1).1.done), .int .i64 ((feedR (newR false) (allT l ⟨#[]⟩).1).1.wrong)] 108 (0, 0)), Rw 33 8 p27 (feedR (newR false) (allT l ⟨#[]⟩).1).1.ms.length c28 (msgsV (feedR (newR false) (allT l ⟨#[]⟩).1).1.ms), Rw 3 1 p29 (feedR (newR false) (allT l ⟨#[]⟩).1).1.ms.length c30 (zsV (feedR (newR false) (allT l ⟨#[]⟩).1).1.zs), Old w no] := H26.absorbI (new := [Ob gr (.cells #[.slice p27 (feedR (newR false) (allT l ⟨#[]⟩).1).1.ms.length c28, .slice p29 (feedR (newR false) (allT l ⟨#[]⟩).1).1.ms.length c30, .int .i64 ((feedR (newR false) (allT l ⟨#[]⟩).1).1.bytes), .bool ((feedR (newR false) (allT l ⟨#[]⟩).1).1.greet), .bool ((feedR (newR false) (allT l ⟨#[]⟩).1).1.hello.e), .bool ((feedR (newR false) (allT l ⟨#[]⟩).1).1.hello.f), .bool ((feedR (newR false) (allT l ⟨#[]⟩).1).1.hello.n), .string ((feedR (newR false) (allT l ⟨#[]⟩).1).1.hello.name), .string ((feedR (newR false) (allT l ⟨#[]⟩).1).1.hello.peer), .bool ((feedR (newR false) (allT l ⟨#[]⟩).1).1.told), .string ((feedR (newR false) (allT l ⟨#[]⟩).1).1.left), .int .i64 ((feedR (newR false) (allT l ⟨#[]⟩).1).1.done), .int .i64 ((feedR (newR false) (allT l ⟨#[]⟩).1).1.wrong)] 108 (0, 0)), Rw 33 8 p27 (feedR (newR false) (allT l ⟨#[]⟩).1).1.ms.length c28 (msgsV (feedR (newR false) (allT l ⟨#[]⟩).1).1.ms), Rw 3 1 p29 (feedR (newR false) (allT l ⟨#[]⟩).1).1.ms.length c30 (zsV (feedR (newR false) (allT l ⟨#[]⟩).1).1.zs)]) [0, 1, 2] H32
          refine b_ret rfl rfl ?_
          refine l_of (s_val (v := .bool (!decide (((feedR (newR false) (allT l ⟨#[]⟩).1).2 : Int) = 0))) (wt0 rfl) rfl rfl (x_bin rfl rfl rfl b_neq) ?_)
          refine l_of (s_val (v := .bool (!decide (((feedR (newR false) (allT l ⟨#[]⟩).1).2 : Int) = 0))) (wt0 rfl) rfl rfl (x_move rfl rfl) ?_)
          refine l_of (s_val (v := .pointer (some ⟨gr, 0, none⟩)) (wt1 rfl rfl rfl rfl (nf hf0)) rfl rfl (x_move rfl rfl) ?_)
          refine l_of (s_call (wt1 rfl rfl rfl rfl (nf hf0)) (x_call' rfl rfl cl34) (wait_p gr _ _ _ _ (H32.cell (k := 0) rfl rfl)) ?_)
          rintro _ wq33 ⟨rfl, H34⟩
          replace H34 : S wq33 [Ob gr (.cells #[.slice p27 (feedR (newR false) (allT l ⟨#[]⟩).1).1.ms.length c28, .slice p29 (feedR (newR false) (allT l ⟨#[]⟩).1).1.ms.length c30, .int .i64 ((feedR (newR false) (allT l ⟨#[]⟩).1).1.bytes), .bool ((feedR (newR false) (allT l ⟨#[]⟩).1).1.greet), .bool ((feedR (newR false) (allT l ⟨#[]⟩).1).1.hello.e), .bool ((feedR (newR false) (allT l ⟨#[]⟩).1).1.hello.f), .bool ((feedR (newR false) (allT l ⟨#[]⟩).1).1.hello.n), .string ((feedR (newR false) (allT l ⟨#[]⟩).1).1.hello.name), .string ((feedR (newR false) (allT l ⟨#[]⟩).1).1.hello.peer), .bool ((feedR (newR false) (allT l ⟨#[]⟩).1).1.told), .string ((feedR (newR false) (allT l ⟨#[]⟩).1).1.left), .int .i64 ((feedR (newR false) (allT l ⟨#[]⟩).1).1.done), .int .i64 ((feedR (newR false) (allT l ⟨#[]⟩).1).1.wrong)] 108 (0, 0)), Rw 33 8 p27 (feedR (newR false) (allT l ⟨#[]⟩).1).1.ms.length c28 (msgsV (feedR (newR false) (allT l ⟨#[]⟩).1).1.ms), Rw 3 1 p29 (feedR (newR false) (allT l ⟨#[]⟩).1).1.ms.length c30 (zsV (feedR (newR false) (allT l ⟨#[]⟩).1).1.zs), Old w no] := H32.absorb (new := []) H34
          refine b_ret rfl rfl ?_
          refine l_of (s_val (v := .slice p n c) (wt1 rfl rfl rfl rfl (nf hf0)) rfl rfl (x_move rfl rfl) ?_)
          refine l_of (s_val (v := .int .i64 ((n : Int))) (wt1 rfl rfl rfl rfl (nf hf0)) rfl rfl (x_lenl rfl rfl Try.underlying46) ?_)
          refine l_of (s_val (v := .bool (!decide ((((feedR (newR false) (allT l ⟨#[]⟩).1).1.ms.length : Int) : Int) = (n : Int)))) (wt1 rfl rfl rfl rfl (nf hf0)) rfl rfl (x_bin rfl rfl rfl b_neq) ?_)
          refine l_of (s_val (v := .bool (!decide ((((feedR (newR false) (allT l ⟨#[]⟩).1).1.ms.length : Int) : Int) = (n : Int)))) (wt0 rfl) rfl rfl (x_pick_f rfl rfl (nf hf0) rfl) ?_)
          refine g_nil ?_
          refine g_then ?_
          refine g_weak [(0, .slice p n c), (10, .pointer (some ⟨gr, 0, none⟩)), (70, .bool (!decide ((((feedR (newR false) (allT l ⟨#[]⟩).1).1.ms.length : Int) : Int) = (n : Int))))] ⟨rfl, rfl, rfl, trivial⟩ ?_
          refine g_cond_f rfl (nf (by rw [hfm]; omega)) ?_
          refine g_skip ?_
          refine g_then ?_
          refine g_seq ?_
          refine g_region ?_
          refine l_of (s_val (v := .slice p n c) (wt0 rfl) rfl rfl (x_move rfl rfl) ?_)
          refine l_of (s_val (v := .int .i64 ((n : Int))) (wt0 rfl) rfl rfl (x_lenl rfl rfl Try.underlying46) ?_)
          refine l_of (s_val (v := .int .i64 0) (wt0 rfl) rfl rfl (x_move rfl rfl) ?_)
          refine g_nil ?_
          refine g_then ?_
          refine g_block ?_
          refine g_loop (ι := Nat × Rdr × Option Addr × Nat × Option Addr × Nat) (fun (j, rr, q1, d1, q2, d2) => [(10, .pointer (some ⟨gr, 0, none⟩)), (71, .slice p n c), (72, .int .i64 ((n : Int))), (73, .int .i64 ((j : Int)))]) (fun (j, rr, q1, d1, q2, d2) wx => (j ≤ n) ∧ (rr.Ok (0 + (allT l ⟨#[]⟩).1.size)) ∧ (rr.ms = l.drop j) ∧ S wx [Ob gr (.cells #[.slice q1 rr.ms.length d1, .slice q2 rr.ms.length d2, .int .i64 (rr.bytes), .bool rr.greet, .bool rr.hello.e, .bool rr.hello.f, .bool rr.hello.n, .string (rr.hello.name), .string (rr.hello.peer), .bool rr.told, .string (rr.left), .int .i64 (rr.done), .int .i64 (rr.wrong)] 108 (0, 0)), Rw 33 8 q1 rr.ms.length d1 (msgsV rr.ms), Rw 3 1 q2 rr.ms.length d2 (zsV rr.zs), Old w no]) (fun (j, rr, q1, d1, q2, d2) => n - j) (0, (feedR (newR false) (allT l ⟨#[]⟩).1).1, p27, c28, p29, c30) ⟨rfl, rfl, rfl, rfl, trivial⟩ ⟨Nat.zero_le _, hfok, hfm, H34⟩ ?_
          rintro ⟨j, rr, q1, d1, q2, d2⟩ wq35 ⟨hi, hok, hms, H36⟩
          replace H36 : S wq35 [Ob gr (.cells #[.slice q1 rr.ms.length d1, .slice q2 rr.ms.length d2, .int .i64 (rr.bytes), .bool rr.greet, .bool rr.hello.e, .bool rr.hello.f, .bool rr.hello.n, .string (rr.hello.name), .string (rr.hello.peer), .bool rr.told, .string (rr.left), .int .i64 (rr.done), .int .i64 (rr.wrong)] 108 (0, 0)), Rw 33 8 q1 rr.ms.length d1 (msgsV rr.ms), Rw 3 1 q2 rr.ms.length d2 (zsV rr.zs), Old w no] := H36
          refine g_weak [(10, .pointer (some ⟨gr, 0, none⟩)), (71, .slice p n c), (72, .int .i64 ((n : Int))), (73, .int .i64 ((j : Int)))] ⟨rfl, rfl, rfl, rfl, trivial⟩ ?_
          refine g_seq ?_
          refine g_region ?_
          refine l_of (s_val (v := .bool (decide (((j : Int) : Int) < (n : Int)))) (wt0 rfl) rfl rfl (x_bin rfl rfl rfl b_lss) ?_)
          refine g_nil ?_
          refine g_then ?_
          refine g_seq ?_
          by_cases hb37 : ((j : Int) : Int) < (n : Int)
          · skip
            obtain ⟨m, hm⟩ : ∃ m, l[j]? = some m := ⟨_, List.getElem?_eq_getElem (by omega)⟩
            have hm0 : rr.ms[0]? = some m := by rw [hms, List.getElem?_drop]; exact hm
            have hnx := nextR_at hok hm0
            have hnm : (nextR rr).2.1 = m := by rw [hnx]
            have hnt : (nextR rr).2.2 = true := by rw [hnx]
            have hms2 : (nextR rr).1.ms = l.drop (j + 1) := by rw [hnx]; show rr.ms.drop 1 = _; rw [hms, List.drop_drop]
            refine g_cond_t rfl (decide_eq_true hb37) ?_
            refine g_skip ?_
            refine g_then ?_
            refine g_seq ?_
            refine g_block ?_
            refine g_seq ?_
            refine g_region ?_
            refine l_of (s_val (v := .pointer ((p).map fun q => q.add (j * 8))) (wt0 rfl) rfl rfl (x_idxR j (H36.oldReads (k := 3) rfl hr) rfl rfl rfl Try.underlying46 sz33 (by omega)) ?_)
            refine l_of (s_val (v := .agg m.cells) (wt0 rfl) rfl rfl (x_loadRA (vs := cellsL m) j (H36.oldReads (k := 3) rfl hr) (by omega) rfl rfl Try.underlying33 rfl sz33 (by rfl) (flat_at (fun a _ => cellsL_len a) hm)) ?_)
            refine l_of (s_alloc H36 (wt0 rfl) rfl rfl rfl ze33 ?_)
            intro g38 wq39 (H40 : S wq39 [Ob g38 (.cells #[.int .i64 0, .int .i64 0, .int .i64 0, .int .i64 0, .int .i64 0, .int .i64 0, .string (⟨#[]⟩), .string (⟨#[]⟩)] 33 (0, 0)), Ob gr (.cells #[.slice q1 rr.ms.length d1, .slice q2 rr.ms.length d2, .int .i64 (rr.bytes), .bool rr.greet, .bool rr.hello.e, .bool rr.hello.f, .bool rr.hello.n, .string (rr.hello.name), .string (rr.hello.peer), .bool rr.told, .string (rr.left), .int .i64 (rr.done), .int .i64 (rr.wrong)] 108 (0, 0)), Rw 33 8 q1 rr.ms.length d1 (msgsV rr.ms), Rw 3 1 q2 rr.ms.length d2 (zsV rr.zs), Old w no])
            refine l_of (s_store H40 0 (wt0 rfl) rfl rfl rfl rfl rfl sz33 rfl rfl (cs' := m.cells) rfl ?_)
            intro wq41 (H42 : S wq41 [Ob g38 (.cells m.cells 33 (0, 0)), Ob gr (.cells #[.slice q1 rr.ms.length d1, .slice q2 rr.ms.length d2, .int .i64 (rr.bytes), .bool rr.greet, .bool rr.hello.e, .bool rr.hello.f, .bool rr.hello.n, .string (rr.hello.name), .string (rr.hello.peer), .bool rr.told, .string (rr.left), .int .i64 (rr.done), .int .i64 (rr.wrong)] 108 (0, 0)), Rw 33 8 q1 rr.ms.length d1 (msgsV rr.ms), Rw 3 1 q2 rr.ms.length d2 (zsV rr.zs), Old w no])
            refine g_nil ?_
            refine g_then ?_
            refine g_seq ?_
            refine g_region ?_
            refine l_of (s_val (v := .pointer (some ⟨gr, 0, none⟩)) (wt0 rfl) rfl rfl (x_move rfl rfl) ?_)
            refine l_of (s_call (wt0 rfl) (x_call' rfl rfl cl35) (next_p gr rr (hok) q1 q2 d1 d2 _ (H42.takes [1, 2, 3] (by decide))) ?_)
            rintro _ wq47 ⟨rfl, p43, c44, p45, c46, H48⟩
            replace H48 : S wq47 [Ob gr (.cells #[.slice p43 (nextR rr).1.ms.length c44, .slice p45 (nextR rr).1.ms.length c46, .int .i64 ((nextR rr).1.bytes), .bool ((nextR rr).1.greet), .bool ((nextR rr).1.hello.e), .bool ((nextR rr).1.hello.f), .bool ((nextR rr).1.hello.n), .string ((nextR rr).1.hello.name), .string ((nextR rr).1.hello.peer), .bool ((nextR rr).1.told), .string ((nextR rr).1.left), .int .i64 ((nextR rr).1.done), .int .i64 ((nextR rr).1.wrong)] 108 (0, 0)), Rw 33 8 p43 (nextR rr).1.ms.length c44 (msgsV (nextR rr).1.ms), Rw 3 1 p45 (nextR rr).1.ms.length c46 (zsV (nextR rr).1.zs), Ob g38 (.cells m.cells 33 (0, 0)), Old w no] := H42.absorbI (new := [Ob gr (.cells #[.slice p43 (nextR rr).1.ms.length c44, .slice p45 (nextR rr).1.ms.length c46, .int .i64 ((nextR rr).1.bytes), .bool ((nextR rr).1.greet), .bool ((nextR rr).1.hello.e), .bool ((nextR rr).1.hello.f), .bool ((nextR rr).1.hello.n), .string ((nextR rr).1.hello.name), .string ((nextR rr).1.hello.peer), .bool ((nextR rr).1.told), .string ((nextR rr).1.left), .int .i64 ((nextR rr).1.done), .int .i64 ((nextR rr).1.wrong)] 108 (0, 0)), Rw 33 8 p43 (nextR rr).1.ms.length c44 (msgsV (nextR rr).1.ms), Rw 3 1 p45 (nextR rr).1.ms.length c46 (zsV (nextR rr).1.zs)]) [1, 2, 3] H48
            refine b_ret rfl rfl ?_
            refine l_of (s_val (v := .tuple #[.agg (nextR rr).2.1.cells, .bool ((nextR rr).2.2)]) (wt0 rfl) rfl rfl (x_move rfl rfl) ?_)
            refine l_of (s_val (v := .agg (nextR rr).2.1.cells) (wt0 rfl) rfl rfl (x_extract rfl rfl rfl) ?_)
            refine l_of (s_val (v := .bool ((nextR rr).2.2)) (wt0 rfl) rfl rfl (x_extract rfl rfl rfl) ?_)
            refine l_of (s_alloc H48 (wt0 rfl) rfl rfl rfl ze33 ?_)
            intro g49 wq50 (H51 : S wq50 [Ob g49 (.cells #[.int .i64 0, .int .i64 0, .int .i64 0, .int .i64 0, .int .i64 0, .int .i64 0, .string (⟨#[]⟩), .string (⟨#[]⟩)] 33 (0, 0)), Ob gr (.cells #[.slice p43 (nextR rr).1.ms.length c44, .slice p45 (nextR rr).1.ms.length c46, .int .i64 ((nextR rr).1.bytes), .bool ((nextR rr).1.greet), .bool ((nextR rr).1.hello.e), .bool ((nextR rr).1.hello.f), .bool ((nextR rr).1.hello.n), .string ((nextR rr).1.hello.name), .string ((nextR rr).1.hello.peer), .bool ((nextR rr).1.told), .string ((nextR rr).1.left), .int .i64 ((nextR rr).1.done), .int .i64 ((nextR rr).1.wrong)] 108 (0, 0)), Rw 33 8 p43 (nextR rr).1.ms.length c44 (msgsV (nextR rr).1.ms), Rw 3 1 p45 (nextR rr).1.ms.length c46 (zsV (nextR rr).1.zs), Ob g38 (.cells m.cells 33 (0, 0)), Old w no])
            refine l_of (s_store H51 0 (wt0 rfl) rfl rfl rfl rfl rfl sz33 rfl rfl (cs' := (nextR rr).2.1.cells) rfl ?_)
            intro wq52 (H53 : S wq52 [Ob g49 (.cells (nextR rr).2.1.cells 33 (0, 0)), Ob gr (.cells #[.slice p43 (nextR rr).1.ms.length c44, .slice p45 (nextR rr).1.ms.length c46, .int .i64 ((nextR rr).1.bytes), .bool ((nextR rr).1.greet), .bool ((nextR rr).1.hello.e), .bool ((nextR rr).1.hello.f), .bool ((nextR rr).1.hello.n), .string ((nextR rr).1.hello.name), .string ((nextR rr).1.hello.peer), .bool ((nextR rr).1.told), .string ((nextR rr).1.left), .int .i64 ((nextR rr).1.done), .int .i64 ((nextR rr).1.wrong)] 108 (0, 0)), Rw 33 8 p43 (nextR rr).1.ms.length c44 (msgsV (nextR rr).1.ms), Rw 3 1 p45 (nextR rr).1.ms.length c46 (zsV (nextR rr).1.zs), Ob g38 (.cells m.cells 33 (0, 0)), Old w no])
            refine l_of (s_val (v := .bool ((nextR rr).2.2)) (wt0 rfl) rfl rfl (x_assign rfl rfl) ?_)
            refine g_nil ?_
            refine g_then ?_
            refine g_seq ?_
            refine g_region ?_
            refine l_of (s_val (v := .agg (nextR rr).2.1.cells) (wt0 rfl) rfl rfl (x_loadA H53 0 rfl rfl Try.underlying33 rfl sz33 rfl rfl rfl) ?_)
            refine l_of (s_val (v := .agg m.cells) (wt0 rfl) rfl rfl (x_loadA H53 4 rfl rfl Try.underlying33 rfl sz33 rfl rfl rfl) ?_)
            refine l_of (s_val (v := .bool (!decide ((nextR rr).2.1 = m))) (wt0 rfl) rfl rfl (x_bin rfl rfl rfl (b_msgN (nextR rr).2.1 m)) ?_)
            refine l_of (s_val (v := .bool (!decide ((nextR rr).2.1 = m))) (wt0 rfl) rfl rfl (x_move rfl rfl) ?_)
            refine l_of (s_val (v := .bool ((nextR rr).2.2)) (wt1 rfl rfl rfl rfl (nf hnm)) rfl rfl (x_move rfl rfl) ?_)
            refine l_of (s_val (v := .bool (!((nextR rr).2.2))) (wt1 rfl rfl rfl rfl (nf hnm)) rfl rfl (x_not (b := (nextR rr).2.2) rfl rfl) ?_)
            refine l_of (s_val (v := .bool (!((nextR rr).2.2))) (wt0 rfl) rfl rfl (x_pick_f rfl rfl (nf hnm) rfl) ?_)
            refine g_nil ?_
            refine g_then ?_
            refine g_weak [(10, .pointer (some ⟨gr, 0, none⟩)), (71, .slice p n c), (72, .int .i64 ((n : Int))), (73, .int .i64 ((j : Int))), (88, .bool (!((nextR rr).2.2)))] ⟨rfl, rfl, rfl, rfl, rfl, trivial⟩ ?_
            refine g_cond_f rfl (neg_of hnt) ?_
            refine g_skip ?_
            refine g_in ?_
            refine g_then ?_
            refine g_region ?_
            refine l_of (s_val (v := .int .i64 ((j : Int) + 1)) (wt0 rfl) rfl rfl (x_bin rfl rfl rfl (b_add (w64 (by omega)))) ?_)
            refine l_of (s_val (v := .int .i64 ((j : Int) + 1)) (wt0 rfl) rfl rfl (x_move rfl rfl) ?_)
            refine g_nil ?_
            refine g_then ?_
            refine g_round (i := (j, rr, q1, d1, q2, d2)) (j + 1, (nextR rr).1, p43, c44, p45, c46) ?_ ?_ ?_
            · exact ⟨rfl, rfl, rfl, rfl, trivial⟩
            · exact ⟨by omega, next_ok hok, hms2, (H53.mask [false, true, true, true, false, true])⟩
            · (try dsimp only); omega
          · skip
            refine g_cond_f rfl (decide_eq_false hb37) ?_
            refine g_exit ?_
            refine g_then_exit ?_
            refine g_then_exit ?_
            refine g_in_hit ?_
            refine g_then ?_
            refine g_seq ?_
            refine g_region ?_
            refine l_of (s_call (wt0 rfl) (x_call' rfl rfl cl10) (awake_p _) ?_)
            rintro _ wq54 ⟨rfl, H55⟩
            replace H55 : S wq54 [Ob gr (.cells #[.slice q1 rr.ms.length d1, .slice q2 rr.ms.length d2, .int .i64 (rr.bytes), .bool rr.greet, .bool rr.hello.e, .bool rr.hello.f, .bool rr.hello.n, .string (rr.hello.name), .string (rr.hello.peer), .bool rr.told, .string (rr.left), .int .i64 (rr.done), .int .i64 (rr.wrong)] 108 (0, 0)), Rw 33 8 q1 rr.ms.length d1 (msgsV rr.ms), Rw 3 1 q2 rr.ms.length d2 (zsV rr.zs), Old w no] := H36.absorb (new := []) (S.of_below H55)
            refine b_ret rfl rfl ?_
            refine l_of (s_val (v := .bool true) (wt0 rfl) rfl rfl (x_assign rfl rfl) ?_)
            refine g_nil ?_
            refine g_then ?_
            refine g_ret ?_
            refine fin_ret [.tmp 2] [.bool true] rfl ⟨rfl, trivial⟩ ?_
            exact ⟨rfl, (H55.mask [false, false, false, true]).below (new := [])⟩
        · skip
          refine g_cond_f rfl (decide_eq_false hb24) ?_
          refine g_skip ?_
          refine g_then ?_
          refine g_seq ?_
          refine g_region ?_
          refine l_of (s_call (wt0 rfl) (x_call' rfl rfl cl10) (awake_p _) ?_)
          rintro _ wq56 ⟨rfl, H57⟩
          replace H57 : S wq56 [Old w no] := H23.absorb (new := []) (S.of_below H57)
          refine b_ret rfl rfl ?_
          refine l_of (s_val (v := .bool true) (wt0 rfl) rfl rfl (x_assign rfl rfl) ?_)
          refine g_nil ?_
          refine g_then ?_
          refine g_ret ?_
          refine fin_ret [.tmp 2] [.bool true] rfl ⟨rfl, trivial⟩ ?_
          exact ⟨rfl, (H57.mask [true]).below (new := [])⟩
end Go.Proofs.Ytcjmdkklbbollaa
